import PyProof.Rows.All
import Wide.All
import OpenK.AllK
import Wide.FinOn
import HandS.ForMost
import HandS.Walk
import HandS.Wide
import HandS.EndBits
import PyProof.Rows.Digits
import KE.KeyNested
import KE.KDictKeyed
import HandS.TupAny
import HandS.TupMul
import HandS.Gcd
import HandS.Style
import HandS.Star
import HandS.TupLe
import KE.SortData
import KE.KDictItemsList
import KE.KDictCopyH
import HandS.DictTup
import HandS.More
import KE.GoesEnum
import KE.GoesMore
import PyProof.EnumMake
import KE.DataMinMax
import HandS.SortKw
import PyProof.ReprRoads
import PyProof.Rows.StrOr
import HandS.IsInst
import HandS.Conv
import PySem.Challenge.RW_drawntables_k50_falling_products_and_row
set_option Elab.async false
set_option linter.all false
section
set_option maxRecDepth 100000
/-! DGate: the hand layer's promises of defs once more, where nothing is being shown (no repr is under way: A.guards is empty) and no limit of digits is set. -/
namespace DL
open PySem PySem.Spec PyProof.Rows L2

structure RoomG (k : Nat) (A : Around) : Prop where
  r : Room k A
  g : A.guards = some []
theorem RoomG.mono {j k : Nat} {A : Around} (h : RoomG k A) (l : j ≤ k) : RoomG j A := ⟨h.r.mono l, h.g⟩
theorem RoomG.deeper {k : Nat} {A : Around} (h : RoomG (k + 1) A) (env : Env) : RoomG k (A.deeper env) := ⟨h.r.deeper env, h.g⟩
theorem RoomG.u {k : Nat} {A : Around} (h : RoomG k A) : A.units + 199 < cLine := by have := h.r.un; omega
/-- what a def promises, called where nothing is being shown -/
structure FnG (P : Program) (w : World) (K : PySem.W.Frag) (mg : Str → Option Value) (base : Heap) (k : Nat) (f : Addr) (fd : FuncData) (ps : List Str) (sp : Sp) : Prop where
  len : ∀ vs H Q E, sp vs H Q E → vs.length = ps.length
  run : ∀ (A : Around) (outer : List Env) (s : Shared) (H : Hp) (args : Args) (us : List Value) (vs : List V) (Q : VK) (E : XK), RoomG k A → Env0 P w K mg base A outer s H → BindsTo s fd args (ps.zip us) → Vals vs us → sp vs H Q E →
    codeAny (model P w) A (.call (.ref f) args) (CR CX0 outer P w H s Q E) s
section
variable {P : Program} {w : World} {K : PySem.W.Frag} {mg : Str → Option Value} {base : Heap} {k j : Nat} {f : Addr} {fd : FuncData} {ps N : List Str} {sp : Sp}
theorem FnG.mono (F : FnG P w K mg base j f fd ps sp) (h : j ≤ k) : FnG P w K mg base k f fd ps sp := ⟨F.len, fun A outer s H args us vs Q E hr => F.run A outer s H args us vs Q E (hr.mono h)⟩
theorem FnG.imp {sp' : Sp} (F : FnG P w K mg base k f fd ps sp) (h : ∀ vs H Q E, sp' vs H Q E → sp vs H Q E) : FnG P w K mg base k f fd ps sp' :=
  ⟨fun vs H Q E q => F.len vs H Q E (h _ _ _ _ q), fun A outer s H args us vs Q E hr he hb hv hs => F.run A outer s H args us vs Q E hr he hb hv (h _ _ _ _ hs)⟩
/-- a def by its body -/
theorem fun_G {x q : Str} {st : Stmt} (F : Fun K x q st f fd) (S : FnScope N ps (defScope st)) (len : ∀ vs H Q E, sp vs H Q E → vs.length = ps.length)
    (hbody : ∀ (cdv : Value) (A : Around) (outer : List Env) (s : Shared) (H : Hp) (vs : List V) (Q : VK) (E : XK), RoomG k (A.deeper (envOfC q (defScope st) s.heap.objs.size f cdv)) → sp vs H Q E →
      ∃ t, PSs (cxOf CX0 P w K mg base N q (defScope st) f cdv A outer s H E).nox (defBody st) t ∧ t { nx := fun _ H' => Q .non H', rt := Q } (start N vs) H) : FnG P w K mg base (k + 1) f fd ps sp := by
  obtain ⟨oc, od, kV, doc, pm, an, cdv, ct, osl, rfl, lk, hcd⟩ := F.ex
  refine ⟨len, fun A outer s H args us vs Q E hr e0 hb r hsp => ?_⟩
  have hl := len _ _ _ _ hsp
  have KX : K.In s.heap := e0.mod.kin.keeps fun b o e => (e0.bs b o e).1
  have lim : s.heap.NoLimit := e0.mod.nolimit.keeps fun b o e => (e0.bs b o e).1
  have hkind : ∀ y ∈ ps.zip us, (defScope st).names.lookup y.1 = some .local ∨ ((defScope st).names.lookup y.1 = some .cell ∧ ((cellsFrom (s.heap.objs.size + 1) (defScope st).names []).lookup y.1).isSome = true) := fun ⟨n, v⟩ hy => by
    rcases S.par n (List.of_mem_zip hy).1 with q | q
    · exact .inl q
    · exact .inr ⟨q, PySem.W.cellsFrom_some _ _ _ (.inl q)⟩
  refine codeAny_call_function hr.r.depth (KX _ _ lk) rfl S.co S.gen rfl (PySem.W.codeRec_of KX hcd) (hb _ _ _ _ ?_)
  refine wpAny_newFunctionEnv_cells S.kind hkind fun env he s1 x => ?_
  subst he
  refine ⟨lim.keeps x.toInCall.keep, codeAny_func ?_⟩
  obtain ⟨t, ht0, hq⟩ := hbody cdv A outer s H vs Q E (hr.deeper _) hsp
  have ht := ht0.nox
  have I : Inv (cxOf CX0 P w K mg base N q (defScope st) f cdv A outer s H E) [] (start N vs) H s1 := inv_start S hr.r.hd e0 hl r x
  refine wpAny_mono (ht.run [] s1 (start N vs) H _ I hq) (fun fl s' hs => ?_) fun e s' hs => hs
  cases fl with
  | ret u =>
    obtain ⟨v, σ', H', J, rv, q⟩ := hs
    exact ⟨v, H', J.os, J.bare, J.base, J.hok, rv, q⟩
  | next =>
    obtain ⟨σ', H', J, q⟩ := hs
    exact ⟨V.non, H', J.os, J.bare, J.base, J.hok, (rfl : RelV V.non Value.none), q⟩
  | brk => exact (let ⟨_, _, _, q⟩ := hs; False.elim q)
  | cont => exact (let ⟨_, _, _, q⟩ := hs; False.elim q)
end
section
variable {X : Cx} {x : Str} {p pos : Pos} {e : Expr} {es : List Expr} {t : TA} {k : Nat} {f : Addr} {fd : FuncData} {ps : List Str} {sp : Sp}
theorem run_G {pins : List (Addr × Obj)} {σ : L2.St} {H : Hp} {s : Shared} {Q : VK} {us : List Value} {vs : List V} (F : FnG X.prog X.w X.K X.mg X.base k f fd ps sp) (hr : RoomG k X.A) (hb : Binds X.K fd ps [])
    (I : Inv X pins σ H s) (r : Vals vs us) (h : sp vs H Q E0) : wpAny (model X.prog X.w) X.A (call (.ref f) us) (EP X pins σ Q) X.xe s := by
  have hl : (us ++ []).length = ps.length := by rw [List.append_nil, ← r.length]; exact F.len _ _ _ _ h
  refine wpAny_call (codeAny_mono (F.run X.A X.stack s H ⟨us, []⟩ (us ++ []) vs Q E0 hr I.env0 (hb s us I.kIn hl) (by rw [List.append_nil]; exact r) h) fun r s' hq => ?_)
  cases r with
  | error e => exact hq.elim
  | ok fl =>
    cases fl with
    | ret u => exact I.after hq
    | next => exact False.elim hq
    | brk => exact False.elim hq
    | cont => exact False.elim hq
def tCallG (sp : Sp) (t : TA) : TE := fun σ H Q => t σ H fun vs H1 => sp vs H1 Q E0
theorem pe_callG (F : FnG X.prog X.w X.K X.mg X.base k f fd ps sp) (hr : RoomG k X.A) (hg : Gl X x) (hm : X.mg x = some (.ref f)) (hk : PySem.W.keepIn X.K (.ref f) = true) (hb : Binds X.K fd ps [])
    (ha : PA X (e :: es) t) (hdb : (x == ("__debug__" : Str)) = false := by decide) (he : starEach (e :: es) X.env = (false, eval e X.env) :: starEach es X.env := by rfl) (hpl : (backTo pos (starEach es X.env)).any (·.1) = false := by rfl) :
    PE X (.Call (.Name x p) (e :: es) [] pos) (tCallG sp t) := by
  refine ⟨fun pins s σ H Q I h => ?_⟩
  refine wpAny_Call_Name_kw (ld_glob I hg hm ?_ hdb)
  exact PySem.W.callWith_K (h₀ := X.base) I.ok.mod.kin hk (thn (ha.run pos pins s σ H _ I h) fun us s1 ⟨vs, H1, I1, r, q⟩ => ⟨I1.kIn, run_G F hr hb I1 r q⟩) he hpl
end

/-! ### the law's own call -/
theorem law_G {P : Program} {w : World} {K : PySem.W.Frag} {mg mb : Str → Option Value} {k : Nat} {fa a : Addr} {fd : FuncData} {x : Str} {sp : Sp} {s₁ : Shared} {vs : List Value} {ns : List Int}
    (KX : K.In s₁.heap) (hns : s₁.heap.Ns mainGlobals mg) (hb : s₁.heap.Ns builtinsNs mb) (hbb : ∀ x : Str, x ≠ "__name__" → mb x = bootBuiltins x) (hlim : s₁.heap.NoLimit) (hdig : s₁.heap.NoDigits) (hg : s₁.gens = #[])
    (ha : s₁.heap.get? a = some { cls := .type "list", data := .seq vs.toArray }) (hi : IntsAre vs ns) (hl : ns.length ≤ sizeLine) (hr : Room k callerA)
    (F : ∀ base : Heap, K.In base → base.Ns mainGlobals mg → base.NoDigits → FnG P w K mg base k fa fd [x] sp) (hbind : ∀ (s : Shared) (u : Value), BindsTo s fd ⟨[u], []⟩ [(x, u)])
    (hsp : ∀ H : Hp, Only H → SqL K H a (ns.map V.int) → sp [.ref a] H (fun v _ => v = .bl true) fun _ _ _ => False) :
    codeAny (model P w) callerA (.call (.ref fa) ⟨[.ref a], []⟩) (fun r s' => r = .ok (.ret (.bool true)) ∧ OldK s₁.heap s'.heap ∧ s'.os = s₁.os ∧ AllBare s'.gens) s₁ := by
  have rv := vals_ints hi
  have lenV := hi.length
  have core : ∀ H : Hp, Only H → SqL K H a (ns.map V.int) → HOk P w H s₁.heap → (∀ b, H b ≠ none → b = a) → (H a ≠ none → K.lookup a = none) →
      codeAny (model P w) callerA (.call (.ref fa) ⟨[.ref a], []⟩) (fun r s' => r = .ok (.ret (.bool true)) ∧ OldK s₁.heap s'.heap ∧ s'.os = s₁.os ∧ AllBare s'.gens) s₁ := by
    intro H hO hS hok hA hK
    have base_of : ∀ {b : Addr} {o : Obj}, s₁.heap.get? b = some o → H b = none → (hidT s₁.heap H).get? b = some o := fun e n => hidT_get e n
    have isA : ∀ {b : Addr} {u : HO}, H b = some u → b = a := fun {b u} q => hA b (by rw [q]; simp)
    have noA : ∀ {b : Addr} {o : Obj} {es : Array DictEntry} {ep : Nat}, s₁.heap.get? b = some o → o.data = .dict es ep → H b = none := fun {b o es ep} e d => by
      cases q : H b with
      | none => rfl
      | some u =>
        have e' := isA q
        subst e'
        rw [ha] at e; cases e
        exact nomatch (show Data.seq vs.toArray _ = Data.dict es ep from d)
    have nsK : ∀ {b : Addr} {m : Str → Option Value}, s₁.heap.Ns b m → (hidT s₁.heap H).Ns b m := fun {b m} ⟨o, es, ep, e, d, r⟩ => ⟨o, es, ep, base_of e (noA e d), d, r⟩
    have hKb : K.In (hidT s₁.heap H) := fun b o e => base_of (KX b o e) (by
      cases q : H b with
      | none => rfl
      | some u =>
        have e' := isA q
        subst e'
        rw [hK (by rw [q]; simp)] at e; cases e)
    have hM : Mod K mg (hidT s₁.heap H) := ⟨hKb, nsK hns, ⟨mb, nsK hb, hbb⟩, let ⟨mc, h1, h2⟩ := hlim; ⟨mc, nsK h1, h2⟩⟩
    have hD : (hidT s₁.heap H).NoDigits := let ⟨mc, h1, h2⟩ := hdig; ⟨mc, nsK h1, h2⟩
    have e0 : Env0 P w K mg (hidT s₁.heap H) callerA [] s₁ H := ⟨rfl, hM, fun b o e => of_hidT e, Nat.le_of_eq (hidT_size _ _), trivial, fun b hb => absurd (show b ∈ ([] : List Addr) from hb) (by simp), hok, .of_eq hg⟩
    refine codeAny_mono ((F _ hKb (nsK hns) hD).run callerA [] s₁ H ⟨[.ref a], []⟩ [.ref a] [.ref a] _ _ ⟨hr, rfl⟩ e0 (hbind s₁ (.ref a)) (.cons rfl .nil) (hsp H hO hS)) fun r s' h => ?_
    cases r with
    | error e => exact h.elim
    | ok fl =>
      cases fl with
      | next => exact False.elim h
      | brk => exact False.elim h
      | cont => exact False.elim h
      | ret u =>
        obtain ⟨v, H', os, bare, un, hok', r', q⟩ := h
        have q' : v = .bl true := q
        subst q'
        obtain rfl : u = Value.bool true := r'
        refine ⟨rfl, OldK.of_keep fun b o e => ?_, os, bare⟩
        cases q : H b with
        | none => exact un.keep b o e q (by intro z; exact absurd (show b ∈ ([] : List Addr) from z) (by simp)) (by simp)
        | some u =>
          rcases hO b with z | ⟨ob, xs, z⟩
          · rw [q] at z; cases z
          · obtain ⟨e1, _⟩ := hok b _ z
            obtain ⟨e2, _⟩ := hok' b _ (un.frzs b ob _ z)
            rw [e] at e1; cases e1
            exact e2
  cases hk : K.lookup a with
  | some o =>
    have e := KX a o hk
    rw [ha] at e
    cases e
    exact core (fun _ => none) (fun _ => .inl rfl) (.inr ⟨_, vs.toArray, _, hk, rfl, rfl, rfl, by rw [List.size_toArray, lenV]; exact hl, by simpa using rv⟩) (fun b u z => nomatch (show (none : Option HO) = some u from z)) (fun b z => absurd rfl z) fun z => absurd rfl z
  | none =>
    refine core (fun b => if b = a then some (.frz { cls := .type "list", data := .seq vs.toArray } (.lst (ns.map V.int))) else none) (fun b => ?_) (.inl (.inr ⟨{ cls := .type "list", data := .seq vs.toArray }, if_pos rfl⟩)) (fun b u z => ?_) (fun b z => ?_) fun _ => hk
    · by_cases hb : b = a
      · exact .inr ⟨_, _, if_pos hb⟩
      · exact .inl (if_neg hb)
    · by_cases hb : b = a
      · have z' := (if_pos hb).symm.trans z
        cases z'
        subst hb
        exact ⟨ha, by rw [List.length_map]; exact hl, vs, _, rv, ha⟩
      · exact nomatch (if_neg hb).symm.trans z
    · by_cases hb : b = a
      · exact hb
      · exact absurd (if_neg hb) z
/-- the goal that k_head leaves -/
theorem walk_G {l : PySem.W.OpenLaw} {n k : Nat} {q : Program} {loose : List Str} {XP : (Str → Option Value) → Heap → Prop} {YP : World → Heap → Prop} {d : DefRec} {K : Params → PySem.W.Frag} {sp : World → Sp} {x : Str}
    (hn : l.most = some n) (hn2 : n ≤ sizeLine) (hdf : d.params.defaults = []) (hr : Room k callerA)
    (hY : ∀ (w : World) (h : Heap), YP w h → (K w.params).In h)
    (F : ∀ (w : World) (mg : Str → Option Value) (fa : Addr) (h : Heap), (K w.params).In h → h.Ns mainGlobals mg → mg d.name = some (.ref fa) →
      ∃ fd : FuncData, (∀ (s : Shared) (u : Value), BindsTo s fd ⟨[u], []⟩ [(x, u)]) ∧
        ∀ base : Heap, (K w.params).In base → base.Ns mainGlobals mg → base.NoDigits → FnG l.prog w (K w.params) mg base k fa fd [x] (sp w))
    (hsp : ∀ (w : World) (H : Hp) (a : Addr) (ns : List Int), ns.length ≤ n → (∀ z ∈ ns, Builtin.Int.intBits z ≤ 1048576) → Only H → SqL (K w.params) H a (ns.map V.int) → sp w [.ref a] H (fun v _ => v = .bl true) fun _ _ _ => False) :
    PySem.W.WalkO q loose XP YP l.row.toRowW d [] (fun f vs => PySem.call f vs) := by
  refine Att.attach_callB hn hdf fun w s₀ s₁ mg mb fa o pm cd doc a vs ns G Y ho hd hcd hmg hobj hints hlen hbits hg => ?_
  have KX := hY w _ Y
  obtain ⟨fd, hb, hF⟩ := F w mg fa _ KX G.T.g hmg
  exact law_G KX G.T.g G.T.b G.T.builtins G.T.nolimit G.T.nodigits hg hobj hints (Nat.le_trans hlen hn2) hr hF hb (fun H hO hS => hsp w H a ns hlen hbits hO hS)
end DL
end
section
set_option maxRecDepth 100000
/-! DBase: values as data, slots as data, the readings over data and their soundness over the hand layer. -/
namespace DL
open PySem PySem.Spec PyProof.Rows L2

/-! ### data -/
inductive D where
  | non | bl (b : Bool) | int (i : Int) | str (x : Str)
  | tup (xs : List D) | lst (xs : List D)
  | dK (kvs : List (Key × D)) | dN (kvs : List (NestedKey × D))
/-- the written part of the heap, and the world -/
structure Ct where
  K : PySem.W.Frag
  w : World
mutual
/-- a key as data -/
def keyD : NestedKey → D
  | .none => .non
  | .num i => .int i
  | .text x => .str x
  | .tup ks => .tup (keysD ks)
def keysD : List NestedKey → List D
  | [] => []
  | k :: ks => keyD k :: keysD ks
end
/-- at a stands a dict with keys (tuples, at those places) and values, in that order -/
def dPhi (w : World) (a : Addr) (ep : Nat) (L : List (NestedKey × Addr × V)) : Heap → Prop := fun h => (a == sysModules) = false ∧ L.length ≤ sizeLine ∧ ∃ (o : Obj) (es : Array DictEntry) (xs : List (NestedKey × Addr × Value)), h.get? a = some o ∧ o.ExactDict ∧ o.data = .dict es ep ∧
  es.toList = xs.map (fun x => (⟨x.1.hash w, .ref x.2.1, x.2.2⟩ : DictEntry)) ∧ Paired (fun (q : NestedKey × Addr × V) (x : NestedKey × Addr × Value) => q.1 = x.1 ∧ q.2.1 = x.2.1 ∧ RelV q.2.2 x.2.2) L xs

def WrT (K : PySem.W.Frag) (a : Addr) (xs : List V) : Prop :=
  ∃ (o : Obj) (its : Array Value) (n : Nat), K.lookup a = some o ∧ o.cls = .type "tuple" ∧ o.data = .seq its n ∧ its.size ≤ sizeLine ∧ Vals xs its.toList

section
variable (K : Ct) (B : Addr → Prop) (H : Hp)
mutual
inductive Rep : V → D → Prop
  | non : Rep .non .non
  | bl (b : Bool) : Rep (.bl b) (.bl b)
  | int (i : Int) : Rep (.int i) (.int i)
  | str (x : Str) : Rep (.str x) (.str x)
  | tup {a vs ds} : B a → Rd H a (.tup vs) → vs.length ≤ sizeLine → Reps vs ds → Rep (.ref a) (.tup ds)
  | tupK {a vs ds} : WrT K.K a vs → vs.length ≤ sizeLine → Reps vs ds → Rep (.ref a) (.tup ds)
  | lst {a vs ds} : B a → H a = some (.lst vs) → vs.length ≤ sizeLine → Reps vs ds → Rep (.ref a) (.lst ds)
  | dK {a kvs kds} : B a → Rd H a (.dK kvs) → RepK kvs kds → Rep (.ref a) (.dK kds)
  | dN {a ep L kds} : B a → H a = some (.ext (dPhi K.w a ep L)) → RepN L kds → (kds.map (·.1)).Nodup → Rep (.ref a) (.dN kds)
inductive Reps : List V → List D → Prop
  | nil : Reps [] []
  | cons {v d vs ds} : Rep v d → Reps vs ds → Reps (v :: vs) (d :: ds)
inductive RepK : List (Key × V) → List (Key × D) → Prop
  | nil : RepK [] []
  | cons {k v d vs ds} : Rep v d → RepK vs ds → RepK ((k, v) :: vs) ((k, d) :: ds)
inductive RepN : List (NestedKey × Addr × V) → List (NestedKey × D) → Prop
  | nil : RepN [] []
  | cons {k q v d vs ds} : Rep (.ref q) (keyD k) → k.depth ≤ 8 → Rep v d → RepN vs ds → RepN ((k, q, v) :: vs) ((k, d) :: ds)
end
end

def Keeps (B : Addr → Prop) (H H' : Hp) : Prop := ∀ p o, B p → H p = some o → H' p = some o
theorem keeps_rd {B : Addr → Prop} {H H' : Hp} {a : Addr} {u : HO} (k : Keeps B H H') (b : B a) (h : Rd H a u) : Rd H' a u := by
  rcases h with h | ⟨o, h⟩
  · exact .inl (k a _ b h)
  · exact .inr ⟨o, k a _ b h⟩
theorem rd_some {H : Hp} {a : Addr} {u : HO} (h : Rd H a u) : H a ≠ none := by
  rcases h with h | ⟨o, h⟩ <;> rw [h] <;> exact fun z => nomatch z
theorem same_keeps {B : Addr → Prop} {H H' : Hp} (s : Same H H') : Keeps B H H' := fun p o _ e => s p o e

section
variable {K : Ct} {B B' : Addr → Prop} {H H' : Hp}
mutual
theorem Rep.mono'' (hB : ∀ a, B a → H a ≠ none → B' a) (hk : Keeps B H H') : ∀ {v : V} {d : D}, Rep K B H v d → Rep K B' H' v d
  | _, _, .non => .non
  | _, _, .bl b => .bl b
  | _, _, .int i => .int i
  | _, _, .str x => .str x
  | _, _, .tup b r z t => .tup (hB _ b (rd_some r)) (keeps_rd hk b r) z (Reps.mono'' hB hk t)
  | _, _, .tupK w z t => .tupK w z (Reps.mono'' hB hk t)
  | _, _, .lst b r z t => .lst (hB _ b (by rw [r]; exact fun z => nomatch z)) (hk _ _ b r) z (Reps.mono'' hB hk t)
  | _, _, .dK b r t => .dK (hB _ b (rd_some r)) (keeps_rd hk b r) (RepK.mono'' hB hk t)
  | _, _, .dN b r t n => .dN (hB _ b (by rw [r]; exact fun z => nomatch z)) (hk _ _ b r) (RepN.mono'' hB hk t) n
theorem Reps.mono'' (hB : ∀ a, B a → H a ≠ none → B' a) (hk : Keeps B H H') : ∀ {vs : List V} {ds : List D}, Reps K B H vs ds → Reps K B' H' vs ds
  | _, _, .nil => .nil
  | _, _, .cons r t => .cons (Rep.mono'' hB hk r) (Reps.mono'' hB hk t)
theorem RepK.mono'' (hB : ∀ a, B a → H a ≠ none → B' a) (hk : Keeps B H H') : ∀ {vs : List (Key × V)} {ds : List (Key × D)}, RepK K B H vs ds → RepK K B' H' vs ds
  | _, _, .nil => .nil
  | _, _, .cons r t => .cons (Rep.mono'' hB hk r) (RepK.mono'' hB hk t)
theorem RepN.mono'' (hB : ∀ a, B a → H a ≠ none → B' a) (hk : Keeps B H H') : ∀ {vs : List (NestedKey × Addr × V)} {ds : List (NestedKey × D)}, RepN K B H vs ds → RepN K B' H' vs ds
  | _, _, .nil => .nil
  | _, _, .cons q l r t => .cons (Rep.mono'' hB hk q) l (Rep.mono'' hB hk r) (RepN.mono'' hB hk t)
end
theorem Rep.mono' {v : V} {d : D} (h : Rep K B H v d) (hB : ∀ a, B a → H a ≠ none → B' a) (hk : Keeps B H H') : Rep K B' H' v d := Rep.mono'' hB hk h
theorem Reps.mono' {v : List V} {d : List D} (h : Reps K B H v d) (hB : ∀ a, B a → H a ≠ none → B' a) (hk : Keeps B H H') : Reps K B' H' v d := Reps.mono'' hB hk h
theorem RepK.mono' {v : List (Key × V)} {d : List (Key × D)} (h : RepK K B H v d) (hB : ∀ a, B a → H a ≠ none → B' a) (hk : Keeps B H H') : RepK K B' H' v d := RepK.mono'' hB hk h
theorem RepN.mono' {v : List (NestedKey × Addr × V)} {d : List (NestedKey × D)} (h : RepN K B H v d) (hB : ∀ a, B a → H a ≠ none → B' a) (hk : Keeps B H H') : RepN K B' H' v d := RepN.mono'' hB hk h
theorem Rep.mono {v : V} {d : D} (h : Rep K B H v d) (hk : Keeps B H H') : Rep K B H' v d := h.mono' (fun _ b _ => b) hk
theorem Reps.mono {vs : List V} {ds : List D} (h : Reps K B H vs ds) (hk : Keeps B H H') : Reps K B H' vs ds := h.mono' (fun _ b _ => b) hk
theorem RepN.mono {vs : List (NestedKey × Addr × V)} {ds : List (NestedKey × D)} (h : RepN K B H vs ds) (hk : Keeps B H H') : RepN K B H' vs ds := h.mono' (fun _ b _ => b) hk
theorem RepK.mono {vs : List (Key × V)} {ds : List (Key × D)} (h : RepK K B H vs ds) (hk : Keeps B H H') : RepK K B H' vs ds := h.mono' (fun _ b _ => b) hk
theorem Rep.wk {v : V} {d : D} (h : Rep K B H v d) (hB : ∀ a, B a → B' a) : Rep K B' H v d := h.mono' (fun a b _ => hB a b) fun _ _ _ e => e
theorem Reps.wk {vs : List V} {ds : List D} (h : Reps K B H vs ds) (hB : ∀ a, B a → B' a) : Reps K B' H vs ds := h.mono' (fun a b _ => hB a b) fun _ _ _ e => e

theorem Reps.length {vs : List V} {ds : List D} (h : Reps K B H vs ds) : vs.length = ds.length := by
  induction ds generalizing vs with
  | nil => cases h; rfl
  | cons d ds ih => cases h with | cons r t => simp [ih t]
theorem Reps.get {vs : List V} {ds : List D} (h : Reps K B H vs ds) {i : Nat} {v : V} (e : vs[i]? = some v) : ∃ d, ds[i]? = some d ∧ Rep K B H v d := by
  induction ds generalizing vs i with
  | nil => cases h; simp at e
  | cons d ds ih =>
    cases h with
    | cons r t =>
      cases i with
      | zero => simp at e; subst e; exact ⟨d, rfl, r⟩
      | succ i => simp at e ⊢; exact ih t e
theorem Reps.getD {vs : List V} {ds : List D} (h : Reps K B H vs ds) {i : Nat} {d : D} (e : ds[i]? = some d) : ∃ v, vs[i]? = some v ∧ Rep K B H v d := by
  induction ds generalizing vs i with
  | nil => simp at e
  | cons d' ds ih =>
    cases h with
    | cons r t =>
      cases i with
      | zero => simp at e; subst e; exact ⟨_, rfl, r⟩
      | succ i => simp at e ⊢; exact ih t e
theorem Reps.append {vs ws : List V} {ds es : List D} (h : Reps K B H vs ds) (g : Reps K B H ws es) : Reps K B H (vs ++ ws) (ds ++ es) := by
  induction ds generalizing vs with
  | nil => cases h; exact g
  | cons d ds ih => cases h with | cons r t => exact .cons r (ih t)
theorem Reps.set {vs : List V} {ds : List D} (h : Reps K B H vs ds) {v : V} {d : D} (g : Rep K B H v d) (i : Nat) : Reps K B H (vs.set i v) (ds.set i d) := by
  induction ds generalizing vs i with
  | nil => cases h; exact .nil
  | cons d' ds ih =>
    cases h with
    | cons r t =>
      cases i with
      | zero => exact .cons g t
      | succ i => exact .cons r (ih t i)
theorem Reps.take {vs : List V} {ds : List D} (h : Reps K B H vs ds) (n : Nat) : Reps K B H (vs.take n) (ds.take n) := by
  induction ds generalizing vs n with
  | nil => cases h; simp; exact .nil
  | cons d' ds ih =>
    cases h with
    | cons r t =>
      cases n with
      | zero => exact .nil
      | succ n => exact .cons r (ih t n)
theorem Reps.drop {vs : List V} {ds : List D} (h : Reps K B H vs ds) (n : Nat) : Reps K B H (vs.drop n) (ds.drop n) := by
  induction ds generalizing vs n with
  | nil => cases h; simp; exact .nil
  | cons d' ds ih =>
    cases h with
    | cons r t =>
      cases n with
      | zero => exact .cons r t
      | succ n => exact ih t n

/-! what has no list and no dict in it -/
mutual
def D.imm : D → Bool
  | .lst _ => false
  | .dK _ => false
  | .dN _ => false
  | .tup xs => D.immL xs
  | .non => true
  | .bl _ => true
  | .int _ => true
  | .str _ => true
def D.immL : List D → Bool
  | [] => true
  | x :: xs => x.imm && D.immL xs
end
theorem rd_notmut {H : Hp} {a : Addr} {xs : List V} (h : Rd H a (.tup xs)) : ¬ Mut (H a) := by
  rcases h with h | ⟨o, h⟩ <;> rw [h] <;> exact fun z => z
mutual
theorem Rep.toImm {v : V} {d : D} (h : Rep K B H v d) (hi : d.imm = true) (hE : ∀ a, ¬ B' a → Mut (H a)) : Rep K B' H v d := by
  cases h with
  | non => exact .non
  | bl b => exact .bl _
  | int i => exact .int _
  | str x => exact .str _
  | tup b r z t => exact Rep.tup (B := B') (Classical.byContradiction fun q => rd_notmut r (hE _ q)) r z (Reps.toImm t (by simpa [D.imm] using hi) hE)
  | tupK w z t => exact .tupK w z (Reps.toImm t (by simpa [D.imm] using hi) hE)
  | lst b r z t => simp [D.imm] at hi
  | dK b r t => simp [D.imm] at hi
  | dN b r t n => simp [D.imm] at hi
theorem Reps.toImm {vs : List V} {ds : List D} (h : Reps K B H vs ds) (hi : D.immL ds = true) (hE : ∀ a, ¬ B' a → Mut (H a)) : Reps K B' H vs ds := by
  cases h with
  | nil => exact .nil
  | cons r t =>
    have hi' := hi
    rw [D.immL, Bool.and_eq_true] at hi'
    exact .cons (Rep.toImm r hi'.1 hE) (Reps.toImm t hi'.2 hE)
end
theorem Rep.sqT {v : V} {ds : List D} (h : Rep K B H v (.tup ds)) : ∃ a vs, v = .ref a ∧ SqT K.K H a vs ∧ vs.length ≤ sizeLine ∧ Reps K B H vs ds := by
  cases h with
  | tup b r z t => exact ⟨_, _, rfl, .inl r, z, t⟩
  | tupK w z t => exact ⟨_, _, rfl, .inr w, z, t⟩
theorem Rep.sqL {v : V} {ds : List D} (h : Rep K B H v (.lst ds)) : ∃ a vs, v = .ref a ∧ B a ∧ H a = some (.lst vs) ∧ vs.length ≤ sizeLine ∧ Reps K B H vs ds := by
  cases h with
  | lst b r z t => exact ⟨_, _, rfl, b, r, z, t⟩
theorem Rep.isInt {v : V} {i : Int} (h : Rep K B H v (.int i)) : v = .int i := by cases h; rfl
theorem Rep.isBl {v : V} {i : Bool} (h : Rep K B H v (.bl i)) : v = .bl i := by cases h; rfl
theorem Rep.isStr {v : V} {i : Str} (h : Rep K B H v (.str i)) : v = .str i := by cases h; rfl
theorem Rep.isNon {v : V} (h : Rep K B H v .non) : v = .non := by cases h; rfl
end

/-! ### slots as data -/
inductive Sl where
  | emp | val (d : D) | own (d : D) | src
abbrev En := List Sl
/-- B0: what arguments may lean on; src: where the drawing source stands; H0: the heap at the entry -/
structure Frm where
  B0 : Addr → Prop
  src : Option (Addr × Addr)
  H0 : Hp
abbrev Ow := List Addr
def Frm.sx (Φ : Frm) (a : Addr) : Prop := ∃ p c, Φ.src = some (p, c) ∧ (a = p ∨ a = c)
/-- true: what stands still whatever the def does with its own lists; false: what stands still as long as the def leaves its own lists -/
def Frm.B (Φ : Frm) (own : Ow) : Bool → Addr → Prop
  | true => fun a => Φ.B0 a ∧ a ∉ own
  | false => fun a => ¬ Φ.sx a
def Src (H : Hp) (a c : Addr) : Prop := ∃ (ns : List Int) (l m t : Int),
  H a = some (.dK [(Sum.inr "cells", .ref c), (Sum.inr "left", .int l), (Sum.inr "mixed", .int m), (Sum.inr "turn", .int t)]) ∧ H c = some (.lst (ns.map V.int)) ∧ ns.length ≤ 63
def OwnOk (K : Ct) (B : Addr → Prop) (H : Hp) (a : Addr) : D → Prop
  | .lst ds => ∃ vs, H a = some (.lst vs) ∧ vs.length ≤ sizeLine ∧ Reps K B H vs ds
  | .dK kds => ∃ kvs, H a = some (.dK kvs) ∧ RepK K B H kvs kds
  | .dN kds => ∃ ep L, H a = some (.ext (dPhi K.w a ep L)) ∧ RepN K B H L kds ∧ (kds.map (·.1)).Nodup
  | _ => False
def SlOk (K : Ct) (Φ : Frm) (own : Ow) (H : Hp) (x : Option V) : Sl → Prop
  | .emp => True
  | .val d => ∃ v, x = some v ∧ Rep K (Φ.B own true) H v d
  | .own d => ∃ a, x = some (.ref a) ∧ a ∈ own ∧ OwnOk K (Φ.B own true) H a d
  | .src => ∃ a c, x = some (.ref a) ∧ Φ.src = some (a, c)
structure Rel (K : Ct) (Φ : Frm) (own : Ow) (ρ : En) (σ : L2.St) (H : Hp) : Prop where
  slots : ∀ (i : Nat) (sl : Sl), ρ[i]? = some sl → SlOk K Φ own H (σ[i]?).join sl
  inj : ∀ (i j : Nat) (d e : D) (x : Option V), ρ[i]? = some (.own d) → ρ[j]? = some (.own e) → σ[i]? = some x → σ[j]? = some x → i = j
  mu : ∀ a, ¬ Φ.B own true a → Mut (H a)
  sep : ∀ a ∈ own, Φ.B0 a ∧ Φ.H0 a = none
  src : ∀ a c, Φ.src = some (a, c) → ¬ Φ.B0 a ∧ ¬ Φ.B0 c ∧ Src H a c
  keep : ∀ p o, Φ.H0 p = some o → ¬ Φ.sx p → H p = some o
  lr : ρ.length = σ.length
def Grow (Φ : Frm) (H H' : Hp) : Prop := ∀ p o, ¬ Φ.sx p → H p = some o → H' p = some o
/-- from statement to statement -/
def Evo (Φ : Frm) (own : Ow) (H : Hp) (own' : Ow) (H' : Hp) : Prop := ∀ p o, Φ.B own true p → H p = some o → H' p = some o ∧ Φ.B own' true p

theorem mut_some {H : Hp} {a : Addr} (h : Mut (H a)) : H a ≠ none := fun z => by rw [z] at h; exact h
theorem mut_of_eq {H H' : Hp} {a : Addr} (h : Mut (H a)) (s : ∀ o, H a = some o → H' a = some o) : Mut (H' a) := by
  cases e : H a with
  | none => rw [e] at h; exact h.elim
  | some o => rw [s o e, ← e]; exact h
theorem same_grow {Φ : Frm} {H H' : Hp} (s : Same H H') : Grow Φ H H' := fun p o _ e => s p o e
theorem same_new {H : Hp} {p : Addr} {o : HO} (h : H p = none) : Same H (upd H p o) := fun b x e => by rw [upd_ne (ne_of_none e h)]; exact e
theorem join_some {α : Type} {x : Option (Option α)} {a : α} (h : x.join = some a) : x = some (some a) := by
  cases x with
  | none => cases h
  | some y => exact congrArg some h
section
variable {K : Ct} {Φ : Frm} {own own' own2 : Ow} {ρ ρ' : En} {σ σ' : L2.St} {H H' H2 : Hp} {b : Bool} {p : Addr} {o : HO} {d : D}
theorem OwnOk.mono {B B' : Addr → Prop} {a : Addr} {d : D} (h : OwnOk K B H a d) (hB : ∀ a, B a → H a ≠ none → B' a) (hk : Keeps B H H') (ha : ∀ o, H a = some o → H' a = some o) : OwnOk K B' H' a d := by
  cases d with
  | lst ds => obtain ⟨vs, e, z, r⟩ := h; exact ⟨vs, ha _ e, z, r.mono' hB hk⟩
  | dK ds => obtain ⟨vs, e, r⟩ := h; exact ⟨vs, ha _ e, r.mono' hB hk⟩
  | dN ds => obtain ⟨ep, vs, e, r, n⟩ := h; exact ⟨ep, vs, ha _ e, r.mono' hB hk, n⟩
  | _ => exact h
theorem OwnOk.mut {B : Addr → Prop} {a : Addr} {d : D} (h : OwnOk K B H a d) : Mut (H a) := by
  cases d with
  | lst ds => obtain ⟨vs, e, r⟩ := h; rw [e]; trivial
  | dK ds => obtain ⟨vs, e, r⟩ := h; rw [e]; trivial
  | dN ds => obtain ⟨ep, vs, e, r⟩ := h; rw [e]; trivial
  | _ => exact h.elim
theorem OwnOk.rep {B : Addr → Prop} {a : Addr} {d : D} (h : OwnOk K B H a d) (hb : B a) : Rep K B H (.ref a) d := by
  cases d with
  | lst ds => obtain ⟨vs, e, z, r⟩ := h; exact .lst hb e z r
  | dK ds => obtain ⟨vs, e, r⟩ := h; exact .dK hb (.inl e) r
  | dN ds => obtain ⟨ep, vs, e, r, n⟩ := h; exact .dN hb e r n
  | _ => exact h.elim
theorem Rel.sxB (R : Rel K Φ own ρ σ H) {a : Addr} (h : Φ.B own true a) : ¬ Φ.sx a := fun ⟨p, c, e, z⟩ => by
  obtain ⟨n1, n2, _⟩ := R.src p c e
  rcases z with rfl | rfl
  · exact n1 h.1
  · exact n2 h.1
theorem Rel.nsx (R : Rel K Φ own ρ σ H) {a : Addr} (h : Φ.B own b a) : ¬ Φ.sx a := by
  cases b with
  | true => exact R.sxB h
  | false => exact h
theorem Rel.sxMut (R : Rel K Φ own ρ σ H) {a : Addr} (h : Φ.sx a) : Mut (H a) := R.mu a fun z => R.sxB z h
theorem Rel.muB (R : Rel K Φ own ρ σ H) : ∀ a, ¬ Φ.B own b a → Mut (H a) := fun a h => by
  cases b with
  | true => exact R.mu a h
  | false => exact R.sxMut (Classical.byContradiction h)
theorem Rel.fresh (R : Rel K Φ own ρ σ H) {p : Addr} (h : H p = none) : Φ.B own b p := Classical.byContradiction fun q => mut_some (R.muB p q) h
theorem Rel.fresh0 (R : Rel K Φ own ρ σ H) {p : Addr} (h : H p = none) : Φ.H0 p = none := by
  cases e : Φ.H0 p with
  | none => rfl
  | some o =>
    have := R.keep p o e (R.nsx (b := false) (R.fresh h))
    rw [h] at this; cases this
theorem Rel.keeps (R : Rel K Φ own ρ σ H) (g : Grow Φ H H') : Keeps (Φ.B own b) H H' := fun p o hb e => g p o (R.nsx hb) e
theorem Rel.rep (R : Rel K Φ own ρ σ H) (g : Grow Φ H H') {v : V} {d : D} (h : Rep K (Φ.B own b) H v d) : Rep K (Φ.B own b) H' v d := h.mono (R.keeps g)
theorem Rel.reps (R : Rel K Φ own ρ σ H) (g : Grow Φ H H') {v : List V} {d : List D} (h : Reps K (Φ.B own b) H v d) : Reps K (Φ.B own b) H' v d := h.mono (R.keeps g)
theorem Rel.ownNsx (R : Rel K Φ own ρ σ H) {a : Addr} (h : a ∈ own) : ¬ Φ.sx a := fun ⟨p, c, e, z⟩ => by
  obtain ⟨n1, n2, _⟩ := R.src p c e
  have := (R.sep a h).1
  rcases z with rfl | rfl
  · exact n1 this
  · exact n2 this
theorem Rel.ownMut (R : Rel K Φ own ρ σ H) {a : Addr} (h : a ∈ own) : Mut (H a) := R.mu a fun z => z.2 h
theorem Src.same (s : Same H H') {a c : Addr} (h : Src H a c) : Src H' a c := by
  obtain ⟨ns, l, m, t, h1, h2, h3⟩ := h
  exact ⟨ns, l, m, t, s _ _ h1, s _ _ h2, h3⟩
/-- what was drawn, or laid anew -/
theorem Rel.grow (R : Rel K Φ own ρ σ H) (g : Grow Φ H H') (hs : ∀ a c, Φ.src = some (a, c) → Src H' a c) : Rel K Φ own ρ σ H' := by
  refine ⟨fun i sl h => ?_, R.inj, fun a h => ?_, R.sep, fun a c e => ?_, fun p o h n => g p o n (R.keep p o h n), R.lr⟩
  · have q := R.slots i sl h
    cases sl with
    | emp => trivial
    | val d => obtain ⟨v, e, r⟩ := q; exact ⟨v, e, R.rep g r⟩
    | own d =>
      obtain ⟨a, e, e2, r⟩ := q
      exact ⟨a, e, e2, r.mono (fun _ b _ => b) (R.keeps g) fun o z => g a o (R.ownNsx e2) z⟩
    | src => exact q
  · by_cases hx : Φ.sx a
    · obtain ⟨p, c, e, z⟩ := hx
      obtain ⟨ns, l, m, t, h1, h2, _⟩ := hs p c e
      rcases z with rfl | rfl
      · rw [h1]; trivial
      · rw [h2]; trivial
    · exact mut_of_eq (R.mu a h) fun o e => g a o hx e
  · obtain ⟨n1, n2, _⟩ := R.src a c e
    exact ⟨n1, n2, hs a c e⟩
theorem Grow.refl : Grow Φ H H := fun _ _ _ e => e
theorem Grow.trans (a : Grow Φ H H') (c : Grow Φ H' H2) : Grow Φ H H2 := fun p o n e => c p o n (a p o n e)
theorem Rel.same (R : Rel K Φ own ρ σ H) (s : Same H H') : Rel K Φ own ρ σ H' := R.grow (same_grow s) fun a c e => (R.src a c e).2.2.same s
theorem Evo.refl : Evo Φ own H own H := fun _ _ b e => ⟨e, b⟩
theorem Evo.trans (a : Evo Φ own H own' H') (c : Evo Φ own' H' own2 H2) : Evo Φ own H own2 H2 := fun p o b e => let ⟨e1, b1⟩ := a p o b e; c p o b1 e1
theorem Rel.evo (R : Rel K Φ own ρ σ H) (g : Grow Φ H H') : Evo Φ own H own H' := fun p o b e => ⟨g p o (R.sxB b) e, b⟩
/-- who is unknown to the heap was unknown to it before -/
theorem Rel.back (R : Rel K Φ own ρ σ H') (g : Grow Φ H H') (h : H' p = none) : H p = none := by
  have hx : ¬ Φ.sx p := R.fresh (b := false) h
  cases e : H p with
  | none => rfl
  | some o =>
    have := g p o hx e
    rw [h] at this; cases this
theorem Rel.B_cons {a : Addr} (h : Φ.B (p :: own) true a) : Φ.B own true a := ⟨h.1, fun z => h.2 (List.mem_cons_of_mem _ z)⟩
theorem Rel.B_to (n : H p = none) : ∀ a, Φ.B own true a → H a ≠ none → Φ.B (p :: own) true a := fun a hb hn => ⟨hb.1, fun z => (List.mem_cons.mp z).elim (fun e => hn (by rw [e]; exact n)) hb.2⟩
/-- a new object of one's own -/
theorem Rel.add (R : Rel K Φ own ρ σ H) (n : H p = none) (m : Mut (some o)) : Rel K Φ (p :: own) ρ σ (upd H p o) := by
  have s : Same H (upd H p o) := same_new n
  refine ⟨fun i sl h => ?_, R.inj, fun a h => ?_, fun a h => ?_, fun a c e => ?_, fun q u h hn => s q u (R.keep q u h hn), R.lr⟩
  · have q := R.slots i sl h
    cases sl with
    | emp => trivial
    | val d => obtain ⟨v, e, r⟩ := q; exact ⟨v, e, r.mono' (Rel.B_to n) (same_keeps s)⟩
    | own d =>
      obtain ⟨a, e, e2, r⟩ := q
      exact ⟨a, e, List.mem_cons_of_mem _ e2, r.mono (Rel.B_to n) (same_keeps s) fun u => s a u⟩
    | src => exact q
  · by_cases e : a = p
    · subst e; rw [upd_same]; exact m
    · exact mut_of_eq (R.mu a fun z => h ⟨z.1, fun q => (List.mem_cons.mp q).elim e z.2⟩) fun u => s a u
  · rcases List.mem_cons.mp h with e | h
    · subst e; exact ⟨(R.fresh (b := true) n).1, R.fresh0 n⟩
    · exact R.sep a h
  · obtain ⟨n1, n2, q⟩ := R.src a c e
    exact ⟨n1, n2, q.same s⟩
theorem OwnOk.thaw (R : Rel K Φ own ρ σ H) (n : H p = none) (h : OwnOk K (Φ.B (p :: own) true) H' p d) : Rep K (Φ.B own true) H' (.ref p) d :=
  OwnOk.rep (h.mono (fun _ b _ => Rel.B_cons b) (fun _ _ _ e => e) fun _ e => e) (R.fresh n)
theorem stab (R : Rel K Φ own ρ σ H) {a : Addr} (h : Φ.B own true a) : Φ.B own b a := by
  cases b with
  | true => exact h
  | false => exact R.sxB h
end
end DL
end
section
set_option maxRecDepth 100000
/-! DExpr: expressions read over data. -/
namespace DL
open PySem PySem.Spec PyProof.Rows L2

abbrev _root_.L2.Cx.ct (X : Cx) : Ct := ⟨X.K, X.w⟩
abbrev RE := En → (D → Prop) → Prop
abbrev RAs := En → (List D → Prop) → Prop
abbrev RT := En → (Bool → Prop) → Prop

def DEr (K : Ct) (b : Bool) (te : TE) (r : RE) : Prop := ∀ (Φ : Frm) (own : Ow) (ρ : En) (σ : L2.St) (H : Hp) (Q : D → Prop) (Qv : VK), Rel K Φ own ρ σ H → r ρ Q →
  (∀ v H' d, Rel K Φ own ρ σ H' → Grow Φ H H' → Rep K (Φ.B own b) H' v d → Q d → Qv v H') → te σ H Qv
/-- an expression; b: its value stands still whatever the def does with its own lists -/
structure DE (X : Cx) (b : Bool) (e : Expr) (te : TE) (r : RE) : Prop where
  pe : PE X e te
  rd : DEr X.ct b te r
def DAr (K : Ct) (b : Bool) (n : Nat) (t : TA) (r : RAs) : Prop := ∀ (Φ : Frm) (own : Ow) (ρ : En) (σ : L2.St) (H : Hp) (Q : List D → Prop) (Qv : List V → Hp → Prop), Rel K Φ own ρ σ H → r ρ Q →
  (∀ vs H' ds, Rel K Φ own ρ σ H' → Grow Φ H H' → Reps K (Φ.B own b) H' vs ds → ds.length = n → Q ds → Qv vs H') → t σ H Qv
structure DA (X : Cx) (b : Bool) (es : List Expr) (t : TA) (r : RAs) : Prop where
  pa : PA X es t
  rd : DAr X.ct b es.length t r
def DTr (K : Ct) (tt : TT) (r : RT) : Prop := ∀ (Φ : Frm) (own : Ow) (ρ : En) (σ : L2.St) (H : Hp) (Q : Bool → Prop) (Qv : Bool → Hp → Prop), Rel K Φ own ρ σ H → r ρ Q →
  (∀ k H', Rel K Φ own ρ σ H' → Grow Φ H H' → Q k → Qv k H') → tt σ H Qv
structure DT (X : Cx) (e : Expr) (tt : TT) (r : RT) : Prop where
  pt : PT X e tt
  rd : DTr X.ct tt r
structure DW (X : Cx) (e : Expr) (tt : TT) (r : RT) : Prop where
  pw : PW X e tt
  rd : DTr X.ct tt r
/-- a new list or dict, the def's own -/
def DFr (K : Ct) (te : TE) (r : RE) : Prop := ∀ (Φ : Frm) (own : Ow) (ρ : En) (σ : L2.St) (H : Hp) (Q : D → Prop) (Qv : VK), Rel K Φ own ρ σ H → r ρ Q →
  (∀ p H' d, Rel K Φ (p :: own) ρ σ H' → Grow Φ H H' → H p = none → OwnOk K (Φ.B (p :: own) true) H' p d → Q d → Qv (.ref p) H') → te σ H Qv
structure DF (X : Cx) (e : Expr) (te : TE) (r : RE) : Prop where
  pe : PE X e te
  rd : DFr X.ct te r

section
variable {X : Cx} {b : Bool} {e e' : Expr} {te te' ta tb : TE} {r ra rb : RE} {pos : Pos}
theorem DF.der {K : Ct} (h : DFr K te r) : DEr K b te r := fun Φ own ρ σ H Q Qv R hr hq => h Φ own ρ σ H Q Qv R hr fun p H' d R' g n ok q => by
  have R2 := R.grow g fun a c e => (R'.src a c e).2.2
  exact hq _ _ _ R2 g ((ok.thaw R n).wk fun _ => stab R2) q
theorem DF.de (h : DF X e te r) : DE X b e te r := ⟨h.pe, DF.der h.rd⟩
theorem DE.bor (h : DE X true e te r) : DE X false e te r := ⟨h.pe, fun Φ own ρ σ H Q Qv R hr hq => h.rd Φ own ρ σ H Q Qv R hr fun v H' d R' g rp q => hq v H' d R' g (rp.wk fun _ => stab R') q⟩
/-- a value without lists stands still -/
def rImm (r : RE) : RE := fun ρ Q => r ρ fun d => d.imm = true ∧ Q d
theorem DE.immF (h : DE X false e te r) : DE X b e te (rImm r) := ⟨h.pe, fun Φ own ρ σ H Q Qv R hr hq => h.rd Φ own ρ σ H _ Qv R hr fun v H' d R' g rp q => hq v H' d R' g (rp.toImm q.1 R'.muB) q.2⟩

/-! ### names, constants -/
def rV (i : Nat) : RE := fun ρ Q => match ρ[i]? with
  | some (.val d) => Q d
  | _ => False
def rB (i : Nat) : RE := fun ρ Q => match ρ[i]? with
  | some (.val d) => Q d
  | some (.own d) => Q d
  | _ => False
def rC (d : D) : RE := fun _ Q => Q d
theorem der_v {K : Ct} {i : Nat} : DEr K true (tVar i) (rV i) := fun Φ own ρ σ H Q Qv R hr hq => by
  unfold rV at hr
  split at hr
  · rename_i d hd
    obtain ⟨v, ev, rp⟩ := R.slots i _ hd
    exact ⟨v, join_some ev, hq v H d R Grow.refl rp hr⟩
  · exact hr.elim
theorem der_b {K : Ct} {i : Nat} : DEr K false (tVar i) (rB i) := fun Φ own ρ σ H Q Qv R hr hq => by
  unfold rB at hr
  split at hr
  · rename_i d hd
    obtain ⟨v, ev, rp⟩ := R.slots i _ hd
    exact ⟨v, join_some ev, hq v H d R Grow.refl (rp.wk fun _ => R.sxB) hr⟩
  · rename_i d hd
    obtain ⟨a, ev, eo, rp⟩ := R.slots i _ hd
    refine ⟨_, join_some ev, hq _ H d R Grow.refl (OwnOk.rep (rp.mono (fun _ b _ => R.sxB b) (fun _ _ _ e => e) fun _ e => e) (R.ownNsx eo)) hr⟩
  · exact hr.elim
theorem e_v (i : Nat) {x : Str} (hN : X.N[i]? = some x := by rfl) (hv : Vis X.env.scope x := by first | exact Or.inl rfl | exact Or.inr (Or.inl rfl) | exact Or.inr (Or.inr rfl)) (hd : (x == ("__debug__" : Str)) = false := by decide)
    (hcd : (x == ("__classdict__" : Str)) = false := by decide) : DE X true (.Name x pos) (tVar i) (rV i) := ⟨pe_var hN hv hd hcd, der_v⟩
theorem e_b (i : Nat) {x : Str} (hN : X.N[i]? = some x := by rfl) (hv : Vis X.env.scope x := by first | exact Or.inl rfl | exact Or.inr (Or.inl rfl) | exact Or.inr (Or.inr rfl)) (hd : (x == ("__debug__" : Str)) = false := by decide)
    (hcd : (x == ("__classdict__" : Str)) = false := by decide) : DE X false (.Name x pos) (tVar i) (rB i) := ⟨pe_var hN hv hd hcd, der_b⟩
theorem der_c {K : Ct} {v : V} {d : D} (h : ∀ B H, Rep K B H v d) : DEr K b (tC v) (rC d) := fun Φ own ρ σ H Q Qv R hr hq => hq v H d R Grow.refl (h _ _) hr
theorem e_int {i j} : DE X b (.Constant (.int i) j pos) (tC (.int i)) (rC (.int i)) := ⟨pe_int, der_c fun _ _ => .int i⟩
theorem e_bl {i j} : DE X b (.Constant (.bool i) j pos) (tC (.bl i)) (rC (.bl i)) := ⟨pe_bl, der_c fun _ _ => .bl i⟩
theorem e_non {j} : DE X b (.Constant .none j pos) (tC .non) (rC .non) := ⟨pe_non, der_c fun _ _ => .non⟩
theorem e_str {x j} : DE X b (.Constant (.str x) j pos) (tC (.str x)) (rC (.str x)) := ⟨pe_str, der_c fun _ _ => .str x⟩

/-! ### operators by values -/
abbrev RO := D → D → (D → Prop) → Prop
def DOp (K : Ct) (r : R2) (rd : RO) : Prop := ∀ (B : Addr → Prop) (x y : V) (H : Hp) (d1 d2 : D) (Q : D → Prop) (Qv : VK), (∀ p, H p = none → B p) → Rep K B H x d1 → Rep K B H y d2 → rd d1 d2 Q →
  (∀ v H' d, Same H H' → Rep K B H' v d → Q d → Qv v H') → r x y H Qv
def rOp (rd : RO) (ra rb : RE) : RE := fun ρ Q => ra ρ fun x => rb ρ fun y => rd x y Q
theorem der_op {K : Ct} {r : R2} {rd : RO} (hd : DOp K r rd) (ha : DEr K b ta ra) (hb : DEr K b tb rb) : DEr K b (tOp r ta tb) (rOp rd ra rb) := fun Φ own ρ σ H Q Qv R hr hq =>
  ha Φ own ρ σ H _ _ R hr fun x H1 d1 R1 g1 p1 q1 => hb Φ own ρ σ H1 _ _ R1 q1 fun y H2 d2 R2 g2 p2 q2 =>
    hd (Φ.B own b) x y H2 d1 d2 Q Qv (fun _ => R2.fresh) (R1.rep g2 p1) p2 q2 fun v H' d s rp q => hq v H' d (R2.same s) ((g1.trans g2).trans (same_grow s)) rp q
theorem e_op {op : Operator} {ro : R2} {rd : RO} (ho : OpR X (binaryOp op) ro) (hd : DOp X.ct ro rd) (ha : DE X b e ta ra) (hb : DE X b e' tb rb) : DE X b (.BinOp e op e' pos) (tOp ro ta tb) (rOp rd ra rb) :=
  ⟨pe_op ho ha.pe hb.pe, der_op hd ha.rd hb.rd⟩
theorem e_cmp {op : CmpOp} {ro : R2} {rd : RO} (ho : OpR X (compareOp op) ro) (hd : DOp X.ct ro rd) (ha : DE X b e ta ra) (hb : DE X b e' tb rb) (hm : behindInMarks op e' = false) : DE X b (.Compare e [op] [e'] pos) (tOp ro ta tb) (rOp rd ra rb) :=
  ⟨pe_cmpR ho ha.pe hb.pe hm, der_op hd ha.rd hb.rd⟩
theorem e_ix {ro : R2} {rd : RO} (ho : IxR X ro) (hd : DOp X.ct ro rd) (ha : DE X b e ta ra) (hb : DE X b e' tb rb) (hs : PlainIx e') : DE X b (.Subscript e e' pos) (tOp ro ta tb) (rOp rd ra rb) :=
  ⟨pe_ix ho ha.pe hb.pe hs, der_op hd ha.rd hb.rd⟩
abbrev RU1 := D → (D → Prop) → Prop
def DUn (K : Ct) (r : V → Hp → VK → Prop) (rd : RU1) : Prop := ∀ (B : Addr → Prop) (x : V) (H : Hp) (d1 : D) (Q : D → Prop) (Qv : VK), (∀ p, H p = none → B p) → Rep K B H x d1 → rd d1 Q →
  (∀ v H' d, Same H H' → Rep K B H' v d → Q d → Qv v H') → r x H Qv
def rUn (rd : RU1) (ra : RE) : RE := fun ρ Q => ra ρ fun x => rd x Q
theorem e_un {op : UnaryOp} {ro : V → Hp → VK → Prop} {rd : RU1} (ho : UnR X (unaryOp op) ro) (hd : DUn X.ct ro rd) (ha : DE X b e ta ra) : DE X b (.UnaryOp op e pos) (tUn ro ta) (rUn rd ra) :=
  ⟨pe_un ho ha.pe, fun Φ own ρ σ H Q Qv R hr hq => ha.rd Φ own ρ σ H _ _ R hr fun x H1 d1 R1 g1 p1 q1 =>
    hd (Φ.B own b) x H1 d1 Q Qv (fun _ => R1.fresh) p1 q1 fun v H' d s rp q => hq v H' d (R1.same s) (g1.trans (same_grow s)) rp q⟩

/-! ### lists of arguments, tuples, lists -/
def raNil : RAs := fun _ Q => Q []
def raCons (r : RE) (ra : RAs) : RAs := fun ρ Q => r ρ fun d => ra ρ fun ds => Q (d :: ds)
theorem a_nil : DA X b [] tNil raNil := ⟨pa_nil, fun Φ own ρ σ H Q Qv R hr hq => hq [] H [] R Grow.refl .nil rfl hr⟩
theorem dar_cons {K : Ct} {n : Nat} {t : TA} {rs : RAs} (ha : DEr K b te r) (hs : DAr K b n t rs) : DAr K b (n + 1) (tCons te t) (raCons r rs) := fun Φ own ρ σ H Q Qv R hr hq =>
  ha Φ own ρ σ H _ _ R hr fun x H1 d1 R1 g1 p1 q1 => hs Φ own ρ σ H1 _ _ R1 q1 fun vs H2 ds R2 g2 p2 hl q2 =>
    hq (x :: vs) H2 (d1 :: ds) R2 (g1.trans g2) (.cons (R1.rep g2 p1) p2) (by simp [hl]) q2
theorem a_cons {es : List Expr} {t : TA} {rs : RAs} (ha : DE X b e te r) (hs : DA X b es t rs) (h : starEach (e :: es) X.env = (false, eval e X.env) :: starEach es X.env := by rfl) : DA X b (e :: es) (tCons te t) (raCons r rs) :=
  ⟨pa_cons ha.pe hs.pa h, dar_cons ha.rd hs.rd⟩
def rTup (ra : RAs) : RE := fun ρ Q => ra ρ fun ds => Q (.tup ds)
theorem e_tup {es : List Expr} {t : TA} {rs : RAs} {x1} (h : DA X b es t rs) (hl : es.length ≤ 1000 := by decide) : DE X b (.Tuple es x1 pos) (tTup t) (rTup rs) :=
  ⟨pe_tup h.pa, fun Φ own ρ σ H Q Qv R hr hq => h.rd Φ own ρ σ H _ _ R hr fun vs H1 ds R1 g1 p1 hn q1 =>
    have hz : vs.length ≤ sizeLine := by rw [p1.length, hn]; exact Nat.le_of_lt (small1000 hl)
    ⟨hz, fun p hp => by
      have s := same_new (o := .tup vs) hp
      exact hq _ _ _ (R1.same s) (g1.trans (same_grow s)) (.tup (R1.fresh hp) (.inl upd_same) hz (p1.mono (same_keeps s))) q1⟩⟩
def rLst (ra : RAs) : RE := fun ρ Q => ra ρ fun ds => Q (.lst ds)
theorem Rel.newLst {K : Ct} {Φ : Frm} {own : Ow} {ρ : En} {σ : L2.St} {H : Hp} {p : Addr} {vs : List V} {ds : List D} (R : Rel K Φ own ρ σ H) (hp : H p = none) (hz : vs.length ≤ sizeLine) (rp : Reps K (Φ.B own true) H vs ds) :
    Rel K Φ (p :: own) ρ σ (upd H p (.lst vs)) ∧ OwnOk K (Φ.B (p :: own) true) (upd H p (.lst vs)) p (.lst ds) :=
  ⟨R.add hp trivial, vs, upd_same, hz, rp.mono' (Rel.B_to hp) (same_keeps (same_new hp))⟩
theorem e_lst {es : List Expr} {t : TA} {rs : RAs} (h : DA X true es t rs) (hl : es.length ≤ 1000 := by decide) : DF X (.List es pos) (tLst t) (rLst rs) :=
  ⟨pe_lst h.pa, fun Φ own ρ σ H Q Qv R hr hq => h.rd Φ own ρ σ H _ _ R hr fun vs H1 ds R1 g1 p1 hn q1 =>
    have hz : vs.length ≤ sizeLine := by rw [p1.length, hn]; exact Nat.le_of_lt (small1000 hl)
    ⟨hz, fun p hp => by
      obtain ⟨R2, ok⟩ := R1.newLst hp hz p1
      exact hq _ _ _ R2 (g1.trans (same_grow (same_new hp))) (R1.back g1 hp) ok q1⟩⟩

/-! ### tests -/
def dB (Q : Bool → Prop) : D → Prop
  | .bl k => Q k
  | _ => False
def rTest (r : RE) : RT := fun ρ Q => r ρ (dB Q)
theorem dtr_test {K : Ct} (h : DEr K b te r) : DTr K (tTest te) (rTest r) := fun Φ own ρ σ H Q Qv R hr hq => h Φ own ρ σ H _ _ R hr fun v H' d R' g rp q => by
  cases d with
  | bl k => exact ⟨k, rp.isBl, hq k H' R' g q⟩
  | _ => exact q.elim
theorem t_cmp {op : CmpOp} {ro : R2} {rd : RO} (ho : OpR X (compareOp op) ro) (hd : DOp X.ct ro rd) (ha : DE X b e ta ra) (hb : DE X b e' tb rb) (hm : behindInMarks op e' = false) : DT X (.Compare e [op] [e'] pos) (tTest (tOp ro ta tb)) (rTest (rOp rd ra rb)) :=
  ⟨pt_cmpR ho ha.pe hb.pe hm, dtr_test (der_op hd ha.rd hb.rd)⟩
theorem t_val (h : DE X b e te r) (he : ∀ whole, isTrue e X.env whole = (do let v ← whole; standAt e.pos; holding [v] (truthy v)) := by intro _; rfl) : DT X e (tB te) (rTest r) :=
  ⟨pt_val h.pe he, fun Φ own ρ σ H Q Qv R hr hq => dtr_test h.rd Φ own ρ σ H Q Qv R hr hq⟩
theorem t_not {tt : TT} {rt : RT} (h : DT X e tt rt) : DT X (.UnaryOp .Not e pos) (tNot tt) (fun ρ Q => rt ρ fun k => Q (!k)) :=
  ⟨pt_not h.pt, fun Φ own ρ σ H Q Qv R hr hq => h.rd Φ own ρ σ H _ _ R hr fun k H' R' g q => hq _ H' R' g q⟩
variable {tA tB' : TT} {rA rB' : RT} {rest : List Expr}
theorem w_and1 (h : DT X e tA rA) : DW X (.BoolOp .And [e] pos) tA rA := ⟨pw_and1 h.pt, h.rd⟩
theorem w_or1 (h : DT X e tA rA) : DW X (.BoolOp .Or [e] pos) tA rA := ⟨pw_or1 h.pt, h.rd⟩
def rAnd (ra rb : RT) : RT := fun ρ Q => ra ρ fun k => if k = true then rb ρ Q else Q false
def rOr (ra rb : RT) : RT := fun ρ Q => ra ρ fun k => if k = true then Q true else rb ρ Q
theorem w_and (h : DT X e tA rA) (h2 : DW X (.BoolOp .And (e' :: rest) pos) tB' rB') : DW X (.BoolOp .And (e :: e' :: rest) pos) (tAnd tA tB') (rAnd rA rB') :=
  ⟨pw_and h.pt h2.pw, fun Φ own ρ σ H Q Qv R hr hq => h.rd Φ own ρ σ H _ _ R hr fun k H' R' g q => by
    cases k with
    | true => exact h2.rd Φ own ρ σ H' _ _ R' q fun k2 H2 R2 g2 q2 => hq k2 H2 R2 (g.trans g2) q2
    | false => exact hq false H' R' g q⟩
theorem w_or (h : DT X e tA rA) (h2 : DW X (.BoolOp .Or (e' :: rest) pos) tB' rB') : DW X (.BoolOp .Or (e :: e' :: rest) pos) (tOr tA tB') (rOr rA rB') :=
  ⟨pw_or h.pt h2.pw, fun Φ own ρ σ H Q Qv R hr hq => h.rd Φ own ρ σ H _ _ R hr fun k H' R' g q => by
    cases k with
    | true => exact hq true H' R' g q
    | false => exact h2.rd Φ own ρ σ H' _ _ R' q fun k2 H2 R2 g2 q2 => hq k2 H2 R2 (g.trans g2) q2⟩
theorem DW.t (h : DW X e tA rA) : DT X e tA rA := ⟨h.pw.pt, h.rd⟩
def rAndV (ra rb : RE) : RE := fun ρ Q => ra ρ (dB fun k => if k = true then rb ρ Q else Q (.bl false))
def rOrV (ra rb : RE) : RE := fun ρ Q => ra ρ (dB fun k => if k = true then Q (.bl true) else rb ρ Q)
theorem e_one {op} (h : DE X b e te r) : DE X b (.BoolOp op [e] pos) te r := ⟨pe_one h.pe, h.rd⟩
theorem e_and (ha : DE X b e ta ra) (hb : DE X b (.BoolOp .And (e' :: rest) pos) tb rb) : DE X b (.BoolOp .And (e :: e' :: rest) pos) (tAndV ta tb) (rAndV ra rb) :=
  ⟨pe_and ha.pe hb.pe, fun Φ own ρ σ H Q Qv R hr hq => ha.rd Φ own ρ σ H _ _ R hr fun v H' d R' g rp q => by
    cases d with
    | bl k =>
      refine ⟨k, rp.isBl, ?_⟩
      cases k with
      | true => exact hb.rd Φ own ρ σ H' _ _ R' q fun v2 H2 d2 R2 g2 rp2 q2 => hq v2 H2 d2 R2 (g.trans g2) rp2 q2
      | false => exact hq _ H' _ R' g (.bl false) q
    | _ => exact q.elim⟩
theorem e_or (ha : DE X b e ta ra) (hb : DE X b (.BoolOp .Or (e' :: rest) pos) tb rb) : DE X b (.BoolOp .Or (e :: e' :: rest) pos) (tOrV ta tb) (rOrV ra rb) :=
  ⟨pe_or ha.pe hb.pe, fun Φ own ρ σ H Q Qv R hr hq => ha.rd Φ own ρ σ H _ _ R hr fun v H' d R' g rp q => by
    cases d with
    | bl k =>
      refine ⟨k, rp.isBl, ?_⟩
      cases k with
      | true => exact hq _ H' _ R' g (.bl true) q
      | false => exact hb.rd Φ own ρ σ H' _ _ R' q fun v2 H2 d2 R2 g2 rp2 q2 => hq v2 H2 d2 R2 (g.trans g2) rp2 q2
    | _ => exact q.elim⟩
theorem e_not (ha : DE X b e ta ra) : DE X b (.UnaryOp .Not e pos) (tNotV ta) (fun ρ Q => ra ρ (dB fun k => Q (.bl (!k)))) :=
  ⟨pe_not ha.pe, fun Φ own ρ σ H Q Qv R hr hq => ha.rd Φ own ρ σ H _ _ R hr fun v H' d R' g rp q => by
    cases d with
    | bl k => exact ⟨k, rp.isBl, hq _ H' _ R' g (.bl _) q⟩
    | _ => exact q.elim⟩
def rIf (rt : RT) (ra rb : RE) : RE := fun ρ Q => rt ρ fun k => if k = true then ra ρ Q else rb ρ Q
theorem e_if {c : Expr} (hc : DT X c tA rA) (ha : DE X b e ta ra) (hb : DE X b e' tb rb) : DE X b (.IfExp c e e' pos) (tIf tA ta tb) (rIf rA ra rb) :=
  ⟨pe_ifExp hc.pt ha.pe hb.pe, fun Φ own ρ σ H Q Qv R hr hq => hc.rd Φ own ρ σ H _ _ R hr fun k H' R' g q => by
    cases k with
    | true => exact ha.rd Φ own ρ σ H' _ _ R' q fun v2 H2 d2 R2 g2 rp2 q2 => hq v2 H2 d2 R2 (g.trans g2) rp2 q2
    | false => exact hb.rd Φ own ρ σ H' _ _ R' q fun v2 H2 d2 R2 g2 rp2 q2 => hq v2 H2 d2 R2 (g.trans g2) rp2 q2⟩
end

/-! ### calls -/
abbrev DSp := List D → (D → Prop) → Prop
/-- the promise of a def that changes nothing -/
def spD (K : Ct) (n : Nat) (F : DSp) : Sp := fun vs H Q _ => ∃ (B : Addr → Prop) (ds : List D) (R : D → Prop), ds.length = n ∧ (∀ a, ¬ B a → Mut (H a)) ∧ Reps K B H vs ds ∧ F ds R ∧
  ∀ v H' d, R d → Same H H' → Rep K B H' v d → Q v H'
/-- .. of a def that draws: its first parameter is the source -/
def spS (K : Ct) (n : Nat) (F : DSp) : Sp := fun vs H Q _ => ∃ (B : Addr → Prop) (a c : Addr) (vs' : List V) (ds : List D) (R : D → Prop), vs = .ref a :: vs' ∧ ds.length = n ∧ (∀ x, ¬ B x → Mut (H x)) ∧ ¬ B a ∧ ¬ B c ∧ Src H a c ∧ Reps K B H vs' ds ∧ F ds R ∧
  ∀ v H' d, R d → (∀ p o, p ≠ a → p ≠ c → H p = some o → H' p = some o) → Src H' a c → Rep K B H' v d → Q v H'
/-- the def that the module's name x holds -/
structure Df (P : Program) (w : World) (K : PySem.W.Frag) (mg : Str → Option Value) (base : Heap) (x : Str) (k : Nat) (sp : Sp) : Prop where
  ex : ∃ (f : Addr) (fd : FuncData) (ps : List Str), mg x = some (.ref f) ∧ PySem.W.keepIn K (.ref f) = true ∧ Binds K fd ps [] ∧ FnG P w K mg base k f fd ps sp
theorem Df.up {P : Program} {w : World} {K : PySem.W.Frag} {mg : Str → Option Value} {base : Heap} {x : Str} {j k : Nat} {sp : Sp} (h : Df P w K mg base x j sp) (l : j ≤ k) : Df P w K mg base x k sp := by
  obtain ⟨f, fd, ps, h1, h2, h3, h4⟩ := h.ex
  exact ⟨f, fd, ps, h1, h2, h3, h4.mono l⟩
section
variable {X : Cx} {b : Bool} {e : Expr} {es : List Expr} {t : TA} {rs : RAs} {x : Str} {p pos : Pos} {k n : Nat} {F : DSp}
def rCall (F : DSp) (rs : RAs) : RE := fun ρ Q => rs ρ fun ds => F ds Q
theorem e_call (D : Df X.prog X.w X.K X.mg X.base x k (spD X.ct n F)) (hr : RoomG k X.A) (hg : Gl X x) (ha : DA X b (e :: es) t rs) (hn : (e :: es).length = n := by rfl) (hdb : (x == ("__debug__" : Str)) = false := by decide)
    (he : starEach (e :: es) X.env = (false, eval e X.env) :: starEach es X.env := by rfl) (hpl : (backTo pos (starEach es X.env)).any (·.1) = false := by rfl) :
    DE X b (.Call (.Name x p) (e :: es) [] pos) (tCallG (spD X.ct n F) t) (rCall F rs) := by
  obtain ⟨f, fd, ps, h1, h2, h3, h4⟩ := D.ex
  refine ⟨pe_callG h4 hr hg h1 h2 h3 ha.pa hdb he hpl, fun Φ own ρ σ H Q Qv R hr' hq => ha.rd Φ own ρ σ H _ _ R hr' fun vs H1 ds R1 g1 p1 hl q1 => ?_⟩
  exact ⟨Φ.B own b, ds, Q, hl.trans hn, R1.muB, p1, q1, fun v H' d hd s rp => hq v H' d (R1.same s) (g1.trans (same_grow s)) rp hd⟩
def rCallS (i : Nat) (F : DSp) (rs : RAs) : RE := fun ρ Q => ρ[i]? = some .src ∧ rs ρ fun ds => F ds Q
theorem e_callS (i : Nat) {y : Str} {py : Pos} (D : Df X.prog X.w X.K X.mg X.base x k (spS X.ct n F)) (hr : RoomG k X.A) (hg : Gl X x) (ha : DA X b es t rs) (hn : es.length = n := by rfl)
    (hN : X.N[i]? = some y := by rfl) (hv : Vis X.env.scope y := by first | exact Or.inl rfl | exact Or.inr (Or.inl rfl) | exact Or.inr (Or.inr rfl)) (hdb : (x == ("__debug__" : Str)) = false := by decide)
    (hyd : (y == ("__debug__" : Str)) = false := by decide) (hcd : (y == ("__classdict__" : Str)) = false := by decide)
    (he : starEach (.Name y py :: es) X.env = (false, eval (.Name y py) X.env) :: starEach es X.env := by rfl) (hpl : (backTo pos (starEach es X.env)).any (·.1) = false := by rfl) :
    DE X b (.Call (.Name x p) (.Name y py :: es) [] pos) (tCallG (spS X.ct n F) (tCons (tVar i) t)) (rCallS i F rs) := by
  obtain ⟨f, fd, ps, h1, h2, h3, h4⟩ := D.ex
  refine ⟨pe_callG h4 hr hg h1 h2 h3 (pa_cons (pe_var hN hv hyd hcd) ha.pa he) hdb he hpl, fun Φ own ρ σ H Q Qv R hr' hq => ?_⟩
  obtain ⟨hs, hr'⟩ := hr'
  obtain ⟨a, c, ea, es'⟩ := R.slots i _ hs
  refine ⟨_, join_some ea, ha.rd Φ own ρ σ H _ _ R hr' fun vs H1 ds R1 g1 p1 hl q1 => ?_⟩
  obtain ⟨n1, n2, src⟩ := R1.src a c es'
  have na : ¬ Φ.B own b a := fun z => R1.nsx z ⟨a, c, es', .inl rfl⟩
  have nc : ¬ Φ.B own b c := fun z => R1.nsx z ⟨a, c, es', .inr rfl⟩
  refine ⟨Φ.B own b, a, c, vs, ds, Q, rfl, hl.trans hn, R1.muB, na, nc, src, p1, q1, fun v H' d hd s src' rp => ?_⟩
  have g : Grow Φ H1 H' := fun q o nq e => s q o (fun z => nq ⟨a, c, es', .inl z⟩) (fun z => nq ⟨a, c, es', .inr z⟩) e
  refine hq v H' d (R1.grow g fun a' c' e' => ?_) (g1.trans g) rp hd
  rw [es'] at e'; cases e'
  exact src'
/-! built-in functions and types by values -/
abbrev RCs := List D → (D → Prop) → Prop
def DCl (K : Ct) (r : List V → Hp → VK → Prop) (rd : RCs) : Prop := ∀ (B : Addr → Prop) (vs : List V) (H : Hp) (ds : List D) (Q : D → Prop) (Qv : VK), (∀ p, H p = none → B p) → Reps K B H vs ds → rd ds Q →
  (∀ v H' d, Same H H' → Rep K B H' v d → Q d → Qv v H') → r vs H Qv
def rCl (rd : RCs) (rs : RAs) : RE := fun ρ Q => rs ρ fun ds => rd ds Q
theorem der_cl {K : Ct} {r : List V → Hp → VK → Prop} {rd : RCs} (hd : DCl K r rd) (ha : DAr K b n t rs) : DEr K b (tCB r t) (rCl rd rs) := fun Φ own ρ σ H Q Qv R hr hq =>
  ha Φ own ρ σ H _ _ R hr fun vs H1 ds R1 g1 p1 _ q1 => hd (Φ.B own b) vs H1 ds Q Qv (fun _ => R1.fresh) p1 q1 fun v H' d s rp q => hq v H' d (R1.same s) (g1.trans (same_grow s)) rp q
theorem e_bi {id : String} {ro : List V → Hp → VK → Prop} {rd : RCs} (hc : CallR X (.builtin id) ro) (hd : DCl X.ct ro rd) (hg : Gl X x) (hm : X.mg x = none) (hv : bootBuiltins x = some (.builtin id)) (ha : DA X b (e :: es) t rs) (hn : x ≠ "__name__" := by decide) (hdb : (x == ("__debug__" : Str)) = false := by decide)
    (he : starEach (e :: es) X.env = (false, eval e X.env) :: starEach es X.env := by rfl) (hpl : (backTo pos (starEach es X.env)).any (·.1) = false := by rfl) : DE X b (.Call (.Name x p) (e :: es) [] pos) (tCB ro t) (rCl rd rs) :=
  ⟨pe_callB hc hg hm hv ha.pa hn hdb he hpl, der_cl hd ha.rd⟩
theorem e_ty {id : String} {ro : List V → Hp → VK → Prop} {rd : RCs} (hc : CallR X (.type id) ro) (hd : DCl X.ct ro rd) (hg : Gl X x) (hm : X.mg x = none) (hv : bootBuiltins x = some (.type id)) (ha : DA X b (e :: es) t rs) (hn : x ≠ "__name__" := by decide) (hdb : (x == ("__debug__" : Str)) = false := by decide)
    (he : starEach (e :: es) X.env = (false, eval e X.env) :: starEach es X.env := by rfl) (hpl : (backTo pos (starEach es X.env)).any (·.1) = false := by rfl) : DE X b (.Call (.Name x p) (e :: es) [] pos) (tCB ro t) (rCl rd rs) :=
  ⟨pe_callTy hc hg hm hv ha.pa hn hdb he hpl, der_cl hd ha.rd⟩
end
end DL
end
section
set_option maxRecDepth 100000
/-! DStmt: targets, statements, loops, comprehensions, defs read over data. -/
namespace DL
open PySem PySem.Spec PyProof.Rows L2

/-! ### slots set -/
section
variable {K : Ct} {Φ : Frm} {own own' : Ow} {ρ : En} {σ : L2.St} {H H' : Hp} {b : Bool} {p : Addr} {o : HO} {d d' : D} {v : V} {i : Nat}
theorem Rel.ownAt (R : Rel K Φ own ρ σ H) {j : Nat} (h : ρ[j]? = some (.own d)) : ∃ a, σ[j]? = some (some (.ref a)) ∧ a ∈ own ∧ OwnOk K (Φ.B own true) H a d := by
  obtain ⟨a, e, m, ok⟩ := R.slots j _ h
  exact ⟨a, join_some e, m, ok⟩
theorem Rel.lt (R : Rel K Φ own ρ σ H) {j : Nat} {sl : Sl} (h : ρ[j]? = some sl) : j < σ.length := by rw [← R.lr]; exact (List.getElem?_eq_some_iff.mp h).1
theorem set_of {α : Type} {l : List α} {i j : Nat} {x y : α} (h : (l.set i x)[j]? = some y) : (i = j ∧ y = x ∧ i < l.length) ∨ (i ≠ j ∧ l[j]? = some y) := by
  by_cases e : i = j
  · subst e
    have hi : i < l.length := by
      have := (List.getElem?_eq_some_iff.mp h).1
      simpa using this
    rw [List.getElem?_set_self hi] at h
    exact .inl ⟨rfl, (Option.some.inj h).symm, hi⟩
  · rw [List.getElem?_set_ne e] at h
    exact .inr ⟨e, h⟩
/-- slot i is told anew, nothing of one's own in it -/
theorem Rel.put (R : Rel K Φ own ρ σ H) (i : Nat) (x : Option V) (sl : Sl) (no : ∀ d, sl ≠ .own d) (h : i < σ.length → SlOk K Φ own H x sl) : Rel K Φ own (ρ.set i sl) (σ.set i x) H := by
  refine ⟨fun j u hj => ?_, fun j k d e y hj hk h1 h2 => ?_, R.mu, R.sep, R.src, R.keep, by rw [List.length_set, List.length_set, R.lr]⟩
  · rcases set_of hj with ⟨rfl, rfl, hi⟩ | ⟨ne, hj⟩
    · have hi' : i < σ.length := by rw [← R.lr]; exact hi
      rw [List.getElem?_set_self hi']
      exact h hi'
    · rw [List.getElem?_set_ne ne]
      exact R.slots j u hj
  · rcases set_of hj with ⟨rfl, e1, _⟩ | ⟨ne1, hj⟩
    · exact absurd e1.symm (no d)
    · rcases set_of hk with ⟨rfl, e1, _⟩ | ⟨ne2, hk⟩
      · exact absurd e1.symm (no e)
      · rw [List.getElem?_set_ne ne1] at h1
        rw [List.getElem?_set_ne ne2] at h2
        exact R.inj j k d e y hj hk h1 h2
theorem Rel.setVal (R : Rel K Φ own ρ σ H) (i : Nat) (r : Rep K (Φ.B own true) H v d) : Rel K Φ own (ρ.set i (.val d)) (σ.set i (some v)) H := R.put i _ _ (fun _ z => nomatch z) fun _ => ⟨v, rfl, r⟩
theorem Rel.setEmp (R : Rel K Φ own ρ σ H) (i : Nat) (x : Option V) : Rel K Φ own (ρ.set i .emp) (σ.set i x) H := R.put i _ _ (fun _ z => nomatch z) fun _ => trivial
/-- a new object of one's own comes into slot i -/
theorem Rel.setOwn (R : Rel K Φ own ρ σ H) (n : H p = none) (R' : Rel K Φ (p :: own) ρ σ H') (ok : OwnOk K (Φ.B (p :: own) true) H' p d) (i : Nat) :
    Rel K Φ (p :: own) (ρ.set i (.own d)) (σ.set i (some (.ref p))) H' := by
  have apart : ∀ (j : Nat) (e : D), ρ[j]? = some (.own e) → σ[j]? ≠ some (some (.ref p)) := fun j e hj hz => by
    obtain ⟨a, ha, m, _⟩ := R.ownAt hj
    rw [ha] at hz; cases hz
    exact mut_some (R.ownMut m) n
  refine ⟨fun j u hj => ?_, fun j k d e y hj hk h1 h2 => ?_, R'.mu, R'.sep, R'.src, R'.keep, by rw [List.length_set, List.length_set, R.lr]⟩
  · rcases set_of hj with ⟨rfl, rfl, hi⟩ | ⟨ne, hj⟩
    · rw [List.getElem?_set_self (by rw [← R.lr]; exact hi)]
      exact ⟨p, rfl, List.mem_cons_self, ok⟩
    · rw [List.getElem?_set_ne ne]
      exact R'.slots j u hj
  · rcases set_of hj with ⟨rfl, e1, hi⟩ | ⟨ne1, hj⟩
    · rcases set_of hk with ⟨rfl, e1, _⟩ | ⟨ne2, hk⟩
      · rfl
      · rw [List.getElem?_set_self (by rw [← R.lr]; exact hi)] at h1
        rw [List.getElem?_set_ne ne2] at h2
        cases h1
        exact (apart k e hk h2).elim
    · rcases set_of hk with ⟨rfl, e1, hi⟩ | ⟨ne2, hk⟩
      · rw [List.getElem?_set_self (by rw [← R.lr]; exact hi)] at h2
        rw [List.getElem?_set_ne ne1] at h1
        cases h2
        exact (apart j d hj h1).elim
      · rw [List.getElem?_set_ne ne1] at h1
        rw [List.getElem?_set_ne ne2] at h2
        exact R.inj j k d e y hj hk h1 h2
/-- one's own object in slot i is written -/
theorem Rel.write (R : Rel K Φ own ρ σ H) {a : Addr} {d₀ : D} (h : ρ[i]? = some (.own d₀)) (ha : σ[i]? = some (some (.ref a))) (hk : ∀ q, q ≠ a → H' q = H q) (ok : OwnOk K (Φ.B own true) H' a d) :
    Rel K Φ own (ρ.set i (.own d)) σ H' ∧ Evo Φ own H own H' := by
  obtain ⟨a', e', m, ok0⟩ := R.ownAt h
  rw [ha] at e'; cases e'
  have ks : Keeps (Φ.B own true) H H' := fun q o hb e => by rw [hk q fun z => hb.2 (by rw [z]; exact m)]; exact e
  have nsx := R.ownNsx m
  refine ⟨⟨fun j u hj => ?_, fun j k d e y hj hk h1 h2 => ?_, fun q hq => ?_, R.sep, fun q c e => ?_, fun q o e hn => ?_, by rw [List.length_set, R.lr]⟩, fun q o hb e => ⟨ks q o hb e, hb⟩⟩
  · rcases set_of hj with ⟨rfl, rfl, hi⟩ | ⟨ne, hj⟩
    · rw [ha]; exact ⟨a, rfl, m, ok⟩
    · have q := R.slots j u hj
      cases u with
      | emp => trivial
      | val d => obtain ⟨v, e, r⟩ := q; exact ⟨v, e, r.mono ks⟩
      | own d =>
        obtain ⟨a2, e, m2, r⟩ := q
        have na : a2 ≠ a := fun z => ne (by subst z; exact R.inj i j _ _ _ h hj ha (join_some e))
        exact ⟨a2, e, m2, r.mono (fun _ b _ => b) ks fun o e => by rw [hk _ na]; exact e⟩
      | src => exact q
  · have hj' : ∃ d', ρ[j]? = some (.own d') := by
      rcases set_of hj with ⟨rfl, _, _⟩ | ⟨_, hj⟩
      · exact ⟨_, h⟩
      · exact ⟨_, hj⟩
    have hk' : ∃ d', ρ[k]? = some (.own d') := by
      rcases set_of hk with ⟨rfl, _, _⟩ | ⟨_, hk⟩
      · exact ⟨_, h⟩
      · exact ⟨_, hk⟩
    obtain ⟨_, hj'⟩ := hj'
    obtain ⟨_, hk'⟩ := hk'
    exact R.inj j k _ _ y hj' hk' h1 h2
  · by_cases e : q = a
    · subst e; exact ok.mut
    · rw [hk q e]; exact R.mu q hq
  · obtain ⟨n1, n2, s⟩ := R.src q c e
    refine ⟨n1, n2, ?_⟩
    obtain ⟨ns, l, m', t, h1, h2, h3⟩ := s
    exact ⟨ns, l, m', t, by rw [hk q fun z => nsx ⟨q, c, e, .inl z.symm⟩]; exact h1, by rw [hk c fun z => nsx ⟨q, c, e, .inr z.symm⟩]; exact h2, h3⟩
  · rw [hk q fun z => ?_]
    · exact R.keep q o e hn
    · subst z
      rw [(R.sep _ m).2] at e; cases e
/-- what was one's own in slot i stands still from now on -/
theorem Rel.melt (R : Rel K Φ own ρ σ H) (h : ρ[i]? = some (.own d)) : ∃ own', Rel K Φ own' (ρ.set i (.val d)) σ H ∧ Evo Φ own H own' H := by
  obtain ⟨a, ha, m, ok⟩ := R.ownAt h
  have hB : ∀ q, Φ.B own true q → Φ.B (own.filter (· ≠ a)) true q := fun q hb => ⟨hb.1, fun z => hb.2 (List.mem_filter.mp z).1⟩
  refine ⟨own.filter (· ≠ a), ⟨fun j u hj => ?_, fun j k d e y hj hk h1 h2 => ?_, fun q hq => R.mu q fun z => hq (hB q z), fun q hq => R.sep q (List.mem_filter.mp hq).1, R.src, R.keep, by rw [List.length_set, R.lr]⟩, fun q o hb e => ⟨e, hB q hb⟩⟩
  · rcases set_of hj with ⟨rfl, rfl, hi⟩ | ⟨ne, hj⟩
    · rw [ha]
      refine ⟨_, rfl, OwnOk.rep (ok.mono (fun q b _ => hB q b) (fun _ _ _ e => e) fun _ e => e) ⟨(R.sep a m).1, fun z => ?_⟩⟩
      simpa using (List.mem_filter.mp z).2
    · have q := R.slots j u hj
      cases u with
      | emp => trivial
      | val d => obtain ⟨v, e, r⟩ := q; exact ⟨v, e, r.wk hB⟩
      | own d =>
        obtain ⟨a2, e, m2, r⟩ := q
        have na : a2 ≠ a := fun z => ne (by subst z; exact R.inj i j _ _ _ h hj ha (join_some e))
        exact ⟨a2, e, List.mem_filter.mpr ⟨m2, by simpa using na⟩, r.mono (fun q b _ => hB q b) (fun _ _ _ e => e) fun _ e => e⟩
      | src => exact q
  · rcases set_of hj with ⟨_, e1, _⟩ | ⟨_, hj⟩
    · cases e1
    · rcases set_of hk with ⟨_, e1, _⟩ | ⟨_, hk⟩
      · cases e1
      · exact R.inj j k d e y hj hk h1 h2
end

/-! ### statements -/
structure DEnds where
  nx : En → Prop
  rt : D → Prop
  bk : En → Prop := fun _ => False
  ct : En → Prop := fun _ => False
abbrev RS := DEnds → En → Prop
def Fin (K : Ct) (Φ : Frm) (H : Hp) (v : V) (d : D) : Prop := (∀ p o, Φ.H0 p = some o → ¬ Φ.sx p → H p = some o) ∧ (∀ a c, Φ.src = some (a, c) → Src H a c) ∧ Rep K Φ.B0 H v d
structure Link (K : Ct) (Φ : Frm) (own : Ow) (H : Hp) (D : DEnds) (E : Ends) : Prop where
  nx : ∀ own' ρ' σ' H', Rel K Φ own' ρ' σ' H' → Evo Φ own H own' H' → D.nx ρ' → E.nx σ' H'
  bk : ∀ own' ρ' σ' H', Rel K Φ own' ρ' σ' H' → Evo Φ own H own' H' → D.bk ρ' → E.bk σ' H'
  ct : ∀ own' ρ' σ' H', Rel K Φ own' ρ' σ' H' → Evo Φ own H own' H' → D.ct ρ' → E.ct σ' H'
  rt : ∀ v H' d, Fin K Φ H' v d → D.rt d → E.rt v H'
theorem Link.later {K : Ct} {Φ : Frm} {own own' : Ow} {H H' : Hp} {D : DEnds} {E : Ends} (l : Link K Φ own H D E) (e : Evo Φ own H own' H') : Link K Φ own' H' D E :=
  ⟨fun a b c d r e2 q => l.nx a b c d r (e.trans e2) q, fun a b c d r e2 q => l.bk a b c d r (e.trans e2) q, fun a b c d r e2 q => l.ct a b c d r (e.trans e2) q, l.rt⟩
def DSr (K : Ct) (ts : TS) (r : RS) : Prop := ∀ (Φ : Frm) (own : Ow) (ρ : En) (σ : L2.St) (H : Hp) (D : DEnds) (E : Ends), Rel K Φ own ρ σ H → r D ρ → Link K Φ own H D E → ts E σ H
structure DS (X : Cx) (st : Stmt) (r : RS) : Prop where
  ex : ∃ ts, PS X st ts ∧ DSr X.ct ts r
structure DSs (X : Cx) (st : List Stmt) (r : RS) : Prop where
  ex : ∃ ts, PSs X st ts ∧ DSr X.ct ts r

section
variable {X : Cx} {st : Stmt} {rest : List Stmt} {r rr : RS} {e : Expr} {te : TE} {re : RE} {pos : Pos} {b : Bool}
def rNx : RS := fun D ρ => D.nx ρ
theorem s_nil : DSs X [] rNx := ⟨_, pss_nil, fun Φ own ρ σ H D E R h l => l.nx own ρ σ H R Evo.refl h⟩
theorem s_one (h : DS X st r) : DSs X [st] r := by
  obtain ⟨ts, p, q⟩ := h.ex
  exact ⟨ts, pss_one p, q⟩
def rSeq (r rr : RS) : RS := fun D ρ => r { D with nx := rr D } ρ
theorem s_cons (h : DS X st r) (h2 : DSs X rest rr) : DSs X (st :: rest) (rSeq r rr) := by
  obtain ⟨ts, p, q⟩ := h.ex
  obtain ⟨ts2, p2, q2⟩ := h2.ex
  refine ⟨_, pss_cons p p2, fun Φ own ρ σ H D E R h l => ?_⟩
  exact q Φ own ρ σ H { D with nx := rr D } { E with nx := ts2 E } R h ⟨fun own' ρ' σ' H' R' ev hn => q2 Φ own' ρ' σ' H' D E R' hn (l.later ev), l.bk, l.ct, l.rt⟩
theorem s_pass : DS X (.Pass pos) rNx := ⟨_, ps_pass, fun Φ own ρ σ H D E R h l => l.nx own ρ σ H R Evo.refl h⟩
theorem s_break : DS X (.Break pos) (fun D ρ => D.bk ρ) := ⟨_, ps_break, fun Φ own ρ σ H D E R h l => l.bk own ρ σ H R Evo.refl h⟩
theorem s_continue : DS X (.Continue pos) (fun D ρ => D.ct ρ) := ⟨_, ps_continue, fun Φ own ρ σ H D E R h l => l.ct own ρ σ H R Evo.refl h⟩
def rDrop (re : RE) : RS := fun D ρ => re ρ fun _ => D.nx ρ
theorem s_expr (he : DE X b e te re) (hs : swapsWith e none pos.line X.env = pure false := by rfl) : DS X (.Expr e pos) (rDrop re) :=
  ⟨_, ps_expr he.pe hs, fun Φ own ρ σ H D E R h l => he.rd Φ own ρ σ H _ _ R h fun v H' d R' g _ q => l.nx own ρ σ H' R' (R.evo g) q⟩
def rRet (re : RE) : RS := fun D ρ => re ρ D.rt
theorem Rel.fin {K : Ct} {Φ : Frm} {own : Ow} {ρ : En} {σ : L2.St} {H : Hp} {v : V} {d : D} (R : Rel K Φ own ρ σ H) (r : Rep K (Φ.B own true) H v d) : Fin K Φ H v d :=
  ⟨R.keep, fun a c e => (R.src a c e).2.2, r.wk fun _ h => h.1⟩
theorem s_ret (he : DE X true e te re) : DS X (.Return (some e) pos) (rRet re) :=
  ⟨_, ps_ret he.pe, fun Φ own ρ σ H D E R h l => he.rd Φ own ρ σ H _ _ R h fun v H' d R' g rp q => l.rt v H' d (R'.fin rp) q⟩
theorem s_retN : DS X (.Return none pos) (fun D _ => D.rt .non) :=
  ⟨_, ps_retN, fun Φ own ρ σ H D E R h l => l.rt .non H .non (R.fin .non) h⟩
/-- return x, x of one's own -/
def rRetO (i : Nat) : RS := fun D ρ => match ρ[i]? with
  | some (.own d) => D.rt d
  | _ => False
theorem s_retO (i : Nat) {x : Str} {p : Pos} (hN : X.N[i]? = some x := by rfl) (hv : Vis X.env.scope x := by first | exact Or.inl rfl | exact Or.inr (Or.inl rfl) | exact Or.inr (Or.inr rfl)) (hd : (x == ("__debug__" : Str)) = false := by decide)
    (hcd : (x == ("__classdict__" : Str)) = false := by decide) : DS X (.Return (some (.Name x p)) pos) (rRetO i) :=
  ⟨_, ps_ret (pe_var hN hv hd hcd), fun Φ own ρ σ H D E R h l => by
    unfold rRetO at h
    split at h
    · rename_i d hd
      obtain ⟨a, ha, m, ok⟩ := R.ownAt hd
      exact ⟨_, ha, l.rt _ H d ⟨R.keep, fun a c e => (R.src a c e).2.2, OwnOk.rep (ok.mono (fun _ b _ => b.1) (fun _ _ _ e => e) fun _ e => e) (R.sep a m).1⟩ h⟩
    · exact h.elim⟩
def rIfS (rt : RT) (ra rb : RS) : RS := fun D ρ => rt ρ fun k => if k = true then ra D ρ else rb D ρ
theorem s_if {c : Expr} {a a' : List Stmt} {tc : TT} {rc : RT} {ra rb : RS} (hc : DT X c tc rc) (ha : DSs X a ra) (hb : DSs X a' rb) : DS X (.If c a a' pos) (rIfS rc ra rb) := by
  obtain ⟨ts, p, q⟩ := ha.ex
  obtain ⟨ts2, p2, q2⟩ := hb.ex
  refine ⟨_, ps_if hc.pt p p2, fun Φ own ρ σ H D E R h l => hc.rd Φ own ρ σ H _ _ R h fun k H' R' g h' => ?_⟩
  cases k with
  | true => exact q Φ own ρ σ H' D E R' h' (l.later (R.evo g))
  | false => exact q2 Φ own ρ σ H' D E R' h' (l.later (R.evo g))

/-! ### targets -/
abbrev RG := D → En → (En → Prop) → Prop
abbrev RGs := List D → En → (En → Prop) → Prop
def DGr (K : Ct) (g : TG) (is : List Nat) (gd : RG) : Prop := ∀ (Φ : Frm) (own : Ow) (ρ : En) (σ : L2.St) (H : Hp) (x : V) (d : D) (Q : En → Prop) (Qv : L2.St → Hp → Prop), Rel K Φ own ρ σ H → Rep K (Φ.B own true) H x d → gd d ρ Q →
  (∀ ρ' σ', Rel K Φ own ρ' σ' H → (∀ j, j ∉ is → σ'[j]? = σ[j]?) → σ'.length = σ.length → Q ρ' → Qv σ' H) → g x σ H Qv
structure DG (X : Cx) (tg : Expr) (g : TG) (is : List Nat) (gd : RG) : Prop where
  pg : PG X tg g
  rd : DGr X.ct g is gd
def DGsr (K : Ct) (g : TGs) (is : List Nat) (gd : RGs) : Prop := ∀ (Φ : Frm) (own : Ow) (ρ : En) (σ : L2.St) (H : Hp) (xs : List V) (ds : List D) (Q : En → Prop) (Qv : L2.St → Hp → Prop), Rel K Φ own ρ σ H → Reps K (Φ.B own true) H xs ds → gd ds ρ Q →
  (∀ ρ' σ', Rel K Φ own ρ' σ' H → (∀ j, j ∉ is → σ'[j]? = σ[j]?) → σ'.length = σ.length → Q ρ' → Qv σ' H) → g xs σ H Qv
structure DGs (X : Cx) (ts : List Expr) (g : TGs) (is : List Nat) (gd : RGs) : Prop where
  pg : PGs X ts g
  rd : DGsr X.ct g is gd
def rgName (i : Nat) : RG := fun d ρ Q => Q (ρ.set i (.val d))
theorem g_name (i : Nat) {x : Str} (hN : X.N.Nodup) (hi : X.N[i]? = some x := by rfl) (hx : Loc X.env.scope x := by first | exact Or.inl rfl | exact Or.inr rfl) (hf : X.fn x = true ∨ X.env.scope.names.lookup x = some .local := by first | exact .inl rfl | exact .inr rfl | assumption) : DG X (.Name x pos) (gName i) [i] (rgName i) :=
  ⟨pg_name hN hi hx hf, fun Φ own ρ σ H x d Q Qv R rp h k => k _ _ (R.setVal i rp) (fun j hj => List.getElem?_set_ne fun z => hj (by rw [z]; exact List.mem_singleton.mpr rfl)) (List.length_set ..) h⟩
def rgNil : RGs := fun ds ρ Q => match ds with
  | [] => Q ρ
  | _ => False
def rgCons (g : RG) (gs : RGs) : RGs := fun ds ρ Q => match ds with
  | d :: ds => g d ρ fun ρ' => gs ds ρ' Q
  | [] => False
theorem gs_nil : DGs X [] gNil [] rgNil := ⟨pgs_nil, fun Φ own ρ σ H xs ds Q Qv R rp h k => by
  cases rp with
  | nil => exact ⟨rfl, k ρ σ R (fun _ _ => rfl) rfl h⟩
  | cons _ _ => exact h.elim⟩
theorem gs_cons {t : Expr} {ts : List Expr} {g : TG} {gs : TGs} {is js : List Nat} {gd : RG} {gds : RGs} (h1 : DG X t g is gd) (h2 : DGs X ts gs js gds)
    (hs : (assignEach (t :: ts) X.env).map (·.2) = assign t X.env :: (assignEach ts X.env).map (·.2) := by rfl) : DGs X (t :: ts) (gCons g gs) (is ++ js) (rgCons gd gds) :=
  ⟨pgs_cons h1.pg h2.pg hs, fun Φ own ρ σ H xs ds Q Qv R rp h k => by
    cases rp with
    | nil => exact h.elim
    | cons r t =>
      refine ⟨_, _, rfl, h1.rd Φ own ρ σ H _ _ _ _ R r h fun ρ1 σ1 R1 s1 l1 q1 => h2.rd Φ own ρ1 σ1 H _ _ _ _ R1 t q1 fun ρ2 σ2 R2 s2 l2 q2 => k ρ2 σ2 R2 (fun j hj => ?_) (l2.trans l1) q2⟩
      rw [List.mem_append, not_or] at hj
      rw [s2 j hj.2, s1 j hj.1]⟩
def rgTup (n : Nat) (g : RGs) : RG := fun d ρ Q => match d with
  | .tup ds => ds.length = n ∧ g ds ρ Q
  | _ => False
theorem g_tup {es : List Expr} {k n : Nat} {g : TGs} {is : List Nat} {gd : RGs} (hc : X.calm = true) (h : DGs X es g is gd)
    (hn : (assignEach es X.env).length = n := by rfl) (hst : (assignEach es X.env).findIdx? (·.1) = none := by rfl) : DG X (.Tuple es k pos) (gTup X.K n g) is (rgTup n gd) :=
  ⟨pg_tup hc h.pg hn hst, fun Φ own ρ σ H x d Q Qv R rp h' k => by
    cases d with
    | tup ds =>
      obtain ⟨a, vs, e, sq, _, rs⟩ := rp.sqT
      exact ⟨a, vs, e, sq, by rw [rs.length]; exact h'.1, h.rd Φ own ρ σ H vs ds Q Qv R rs h'.2 k⟩
    | _ => exact h'.elim⟩
def rAsg (re : RE) (g : RG) : RS := fun D ρ => re ρ fun d => g d ρ D.nx
theorem dsr_asg {K : Ct} {g : TG} {is : List Nat} {gd : RG} (he : DEr K true te re) (hg : DGr K g is gd) : DSr K (tAsg te g) (rAsg re gd) := fun Φ own ρ σ H D E R h l =>
  he Φ own ρ σ H _ _ R h fun v H' d R' gr rp q => hg Φ own ρ σ H' v d _ _ R' rp q fun ρ' σ' R2 _ _ q2 => l.nx own ρ' σ' H' R2 (R.evo gr) q2
theorem s_asg {tg : Expr} {g : TG} {is : List Nat} {gd : RG} (he : DE X true e te re) (hg : DG X tg g is gd) (hs : swapsWithSole [tg] e pos.line X.env = pure false := by rfl) (hw : swappedStores [tg] e X.env = pure none := by rfl)
    (h1 : (assignEach [tg] X.env).map (·.2) = [assign tg X.env] := by rfl) : DS X (.Assign [tg] e pos) (rAsg re gd) := ⟨_, ps_asg he.pe hg.pg hs hw h1, dsr_asg he.rd hg.rd⟩
def rSet (i : Nat) (re : RE) : RS := fun D ρ => re ρ fun d => D.nx (ρ.set i (.val d))
theorem dsr_set {K : Ct} {i : Nat} (he : DEr K true te re) : DSr K (tAsg te (gName i)) (rSet i re) := fun Φ own ρ σ H D E R h l =>
  he Φ own ρ σ H _ _ R h fun v H' d R' gr rp q => l.nx own _ _ H' (R'.setVal i rp) (R.evo gr) q
theorem s_set (i : Nat) {x : Str} {pos' : Pos} (hN : X.N.Nodup) (he : DE X true e te re) (hi : X.N[i]? = some x := by rfl) (hx : Loc X.env.scope x := by first | exact Or.inl rfl | exact Or.inr rfl) (hs : swapsWith e (some (.Name x pos')) pos.line X.env = pure false := by rfl)
    (hf : X.fn x = true ∨ X.env.scope.names.lookup x = some .local := by first | exact .inl rfl | exact .inr rfl | assumption) : DS X (.Assign [.Name x pos'] e pos) (rSet i re) := ⟨_, ps_set hN hi hx he.pe hs hf, dsr_set he.rd⟩
/-- x = a new list or dict: of one's own -/
def rSetO (i : Nat) (re : RE) : RS := fun D ρ => re ρ fun d => D.nx (ρ.set i (.own d))
theorem dsr_setO {K : Ct} {i : Nat} (he : DFr K te re) : DSr K (tAsg te (gName i)) (rSetO i re) := fun Φ own ρ σ H D E R h l =>
  he Φ own ρ σ H _ _ R h fun p H' d R' gr n ok q => l.nx (p :: own) _ _ H' (R.setOwn n R' ok i) (fun a o hb e => ⟨gr a o (R.sxB hb) e, Rel.B_to n a hb (by rw [e]; exact fun z => nomatch z)⟩) q
theorem s_setO (i : Nat) {x : Str} {pos' : Pos} (hN : X.N.Nodup) (he : DF X e te re) (hi : X.N[i]? = some x := by rfl) (hx : Loc X.env.scope x := by first | exact Or.inl rfl | exact Or.inr rfl) (hs : swapsWith e (some (.Name x pos')) pos.line X.env = pure false := by rfl)
    (hf : X.fn x = true ∨ X.env.scope.names.lookup x = some .local := by first | exact .inl rfl | exact .inr rfl | assumption) : DS X (.Assign [.Name x pos'] e pos) (rSetO i re) := ⟨_, ps_set hN hi hx he.pe hs hf, dsr_setO he.rd⟩
/-- a, b = e1, e2 with plain local names -/
def rPar (i j : Nat) (rs : RAs) : RS := fun D ρ => rs ρ fun ds => match ds with
  | [c, d] => D.nx ((ρ.set i (.val c)).set j (.val d))
  | _ => False
theorem s_par (i j : Nat) {x y : Str} {a c : Expr} {ta : TA} {rs : RAs} {px py pt : Pos} {kt k2 pt2} (hc : X.calm = true) (hN : X.N.Nodup) (ha : DA X true [a, c] ta rs) (hi : X.N[i]? = some x := by rfl) (hj : X.N[j]? = some y := by rfl) (hij : i ≠ j := by decide)
    (hx : X.env.scope.names.lookup x = some .local := by rfl) (hy : X.env.scope.names.lookup y = some .local := by rfl)
    (hw : swappedStores [.Tuple [.Name x px, .Name y py] kt pt] (.Tuple [a, c] k2 pt2) X.env = pure (some [x, y]) := by rfl)
    (hs : swapsWithSole [.Tuple [.Name x px, .Name y py] kt pt] (.Tuple [a, c] k2 pt2) pos.line X.env = pure false := by rfl) :
    DS X (.Assign [.Tuple [.Name x px, .Name y py] kt pt] (.Tuple [a, c] k2 pt2) pos) (rPar i j rs) :=
  ⟨_, ps_par hc hN hi hj hij hx hy ha.pa hw hs, fun Φ own ρ σ H D E R h l => ha.rd Φ own ρ σ H _ _ R h fun vs H' ds R' gr rp hl q => by
    cases rp with
    | nil => exact q.elim
    | cons r t =>
      cases t with
      | nil => exact q.elim
      | cons r2 t =>
        cases t with
        | nil => exact ⟨_, _, rfl, l.nx own _ _ H' ((R'.setVal i r).setVal j r2) (R.evo gr) q⟩
        | cons _ _ => exact q.elim⟩
/-- from here on what slot i has stands still -/
def rMelt (i : Nat) (r : RS) : RS := fun D ρ => match ρ[i]? with
  | some (.own d) => r D (ρ.set i (.val d))
  | _ => False
theorem s_melt (i : Nat) (h : DS X st r) : DS X st (rMelt i r) := by
  obtain ⟨ts, p, q⟩ := h.ex
  refine ⟨ts, p, fun Φ own ρ σ H D E R h l => ?_⟩
  unfold rMelt at h
  split at h
  · rename_i d hd
    obtain ⟨own', R', ev⟩ := R.melt hd
    exact q Φ own' _ σ H D E R' h (l.later ev)
  · exact h.elim
/-- one's own list in slot i: x.append(e) -/
def rApp (i : Nat) (re : RE) : RS := fun D ρ => match ρ[i]? with
  | some (.own (.lst ds)) => re ρ fun d => ds.length < sizeLine ∧ D.nx (ρ.set i (.own (.lst (ds ++ [d]))))
  | _ => False
theorem mut_lst {H : Hp} {a : Addr} {vs : List V} (h : H a = some (.lst vs)) : Mut (H a) := by rw [h]; trivial
theorem Rel.wLst {K : Ct} {Φ : Frm} {own : Ow} {ρ : En} {σ : L2.St} {H : Hp} {i : Nat} {a : Addr} {d₀ : D} {vs : List V} {ds : List D} (R : Rel K Φ own ρ σ H) (h : ρ[i]? = some (.own d₀)) (ha : σ[i]? = some (some (.ref a))) (hz : vs.length ≤ sizeLine) (rp : Reps K (Φ.B own true) H vs ds) :
    Rel K Φ own (ρ.set i (.own (.lst ds))) σ (upd H a (.lst vs)) ∧ Evo Φ own H own (upd H a (.lst vs)) := by
  obtain ⟨a', e', m, ok0⟩ := R.ownAt h
  rw [ha] at e'; cases e'
  refine R.write h ha (fun q hq => upd_ne hq) ⟨vs, upd_same, hz, rp.mono fun q o hb e => ?_⟩
  rw [upd_ne fun z => hb.2 (by rw [z]; exact m)]; exact e
theorem s_app (i : Nat) {x : Str} {p apos cpos : Pos} (he : DE X true e te re) (hN : X.N[i]? = some x := by rfl) (hv : Vis X.env.scope x := by first | exact Or.inl rfl | exact Or.inr (Or.inl rfl) | exact Or.inr (Or.inr rfl)) (hd : (x == ("__debug__" : Str)) = false := by decide)
    (hcd : (x == ("__classdict__" : Str)) = false := by decide) (hbase : attributeBase (.Name x p) "append" X.env (eval (.Name x p) X.env) = eval (.Name x p) X.env := by rfl)
    (hfew : ((backTo cpos (starEach (e :: []) X.env)).all (fun x => !x.1) && (backToKw cpos (keywordEach [] X.env)).all (fun x => x.1.isSome)
      && decide ((e :: []).length + ([] : List Keyword).length + (if ([] : List Keyword).isEmpty then 0 else 1) < 30)) = true := by rfl)
    (hline : (apos.endLine == cpos.line) = true := by rfl) (hs : starEach (e :: []) X.env = (false, eval e X.env) :: starEach [] X.env := by rfl) (hplain : (backTo cpos (starEach [] X.env)).any (·.1) = false := by rfl)
    (hsw : swapsWith (.Call (.Attribute (.Name x p) "append" apos) [e] [] cpos) none pos.line X.env = pure false := by rfl) :
    DS X (.Expr (.Call (.Attribute (.Name x p) "append" apos) [e] [] cpos) pos) (rApp i re) :=
  ⟨_, ps_expr (pe_bm PySem.F.plainAttrs_list PySem.F.slot_list_append PySem.F.type_list_append mt_append (pe_var hN hv hd hcd) (pa_cons he.pe pa_nil hs) hbase hfew hline hs hplain) hsw, fun Φ own ρ σ H D E R h l => by
    unfold rApp at h
    split at h
    · rename_i ds hi
      obtain ⟨a, ha, m, vs, ea, _, rv⟩ := R.ownAt hi
      refine ⟨_, ha, .inl ⟨rfl, vs, .inl (.inl ea)⟩, he.rd Φ own ρ σ H _ _ R h fun v H' d R' g rp q => ?_⟩
      have e2 := g a _ (R.ownNsx m) ea
      refine ⟨a, vs, v, rfl, rfl, e2, by rw [rv.length]; exact q.1, ?_⟩
      obtain ⟨R2, ev⟩ := R'.wLst hi ha (by rw [List.length_append, List.length_singleton, rv.length]; exact q.1) ((R.reps g rv).append (.cons rp .nil))
      exact l.nx own _ σ _ R2 ((R.evo g).trans ev) q.2
    · exact h.elim⟩
end
end DL
end
section
set_option maxRecDepth 100000
/-! DLoop: what is walked, for, while, comprehensions, defs. -/
namespace DL
open PySem PySem.Spec L2

/-- while what Bk says is kept, J walks ds -/
def ItOk (K : Ct) (Bk Bi : Addr → Prop) (H1 : Hp) (J : It) (ds : List D) : Prop :=
  ∃ (G : Hp → Prop) (Y : Nat → Hp → V → Hp → Prop), ds.length ≤ sizeLine ∧ Walk J ds.length G Y ∧ (∀ H, Keeps Bk H1 H → G H) ∧
    ∀ (B' : Addr → Prop) (i : Nat) (H : Hp) (x : V) (H' : Hp), (∀ a, Bi a → H1 a ≠ none → B' a) → (∀ a, ¬ B' a → Mut (H a)) → Keeps Bk H1 H → i < ds.length → Y i H x H' → Same H H' ∧ ∃ d, ds[i]? = some d ∧ Rep K B' H' x d
abbrev RI := En → (List D → Prop) → Prop
def DIr (K : Ct) (b : Bool) (wi : TI) (ri : RI) : Prop := ∀ (Φ : Frm) (own : Ow) (ρ : En) (σ : L2.St) (H : Hp) (Q : List D → Prop) (Qv : It → Hp → Prop), Rel K Φ own ρ σ H → ri ρ Q →
  (∀ J H' ds, Rel K Φ own ρ σ H' → Grow Φ H H' → ItOk K (Φ.B own b) (Φ.B own true) H' J ds → Q ds → Qv J H') → wi σ H Qv
structure DI (X : Cx) (b : Bool) (tg iter : Expr) (wi : TI) (ri : RI) : Prop where
  pi : PI X tg iter wi
  rd : DIr X.ct b wi ri

section
variable {K : Ct} {Bk Bi B : Addr → Prop} {H1 : Hp} {a : Addr} {vs : List V} {ds : List D}
theorem fresh_of {B' : Addr → Prop} {H : Hp} (h : ∀ a, ¬ B' a → Mut (H a)) : ∀ p, H p = none → B' p := fun p n => Classical.byContradiction fun q => mut_some (h p q) n
theorem itok_seq {J : It} {G : Hp → Prop} (hz : vs.length ≤ sizeLine) (w : Walk J ds.length G (YAt vs)) (hG : ∀ H, Keeps Bk H1 H → G H) (r : Reps K Bk H1 vs ds) (hb : (∀ a, Bk a → Bi a) ∨ D.immL ds = true) : ItOk K Bk Bi H1 J ds := by
  refine ⟨G, _, by rw [← r.length]; exact hz, w, hG, fun B' i H x H' hB hm hk hi y => ?_⟩
  obtain ⟨rfl, e⟩ := y
  obtain ⟨d, ed, rp⟩ := r.get e
  refine ⟨fun _ _ h => h, d, ed, ?_⟩
  rcases hb with hb | hb
  · exact rp.mono' (fun a h n => hB a (hb a h) n) hk
  · have hi' : d.imm = true := by
      have : ∀ (l : List D) (i : Nat) (d : D), D.immL l = true → l[i]? = some d → d.imm = true := by
        intro l
        induction l with
        | nil => intro i d _ h; simp at h
        | cons c l ih =>
          intro i d h e
          rw [D.immL, Bool.and_eq_true] at h
          cases i with
          | zero => simp at e; subst e; exact h.1
          | succ i => simp at e; exact ih i d h.2 e
      exact this ds i d hb ed
    exact (rp.mono hk).toImm hi' hm
end

section
variable {X : Cx} {e tg : Expr} {te : TE} {re : RE} {pos : Pos} {b : Bool}
/-- a list; a tuple -/
def dL (Q : List D → Prop) : D → Prop
  | .lst ds => Q ds
  | _ => False
def dT (Q : List D → Prop) : D → Prop
  | .tup ds => Q ds
  | _ => False
def riL (re : RE) : RI := fun ρ Q => re ρ (dL Q)
def riT (re : RE) : RI := fun ρ Q => re ρ (dT Q)
def rImmL (ri : RI) : RI := fun ρ Q => ri ρ fun ds => D.immL ds = true ∧ Q ds
theorem ir_list (h : DEr K true te re) : DIr K true (iList K.K te) (riL re) := fun Φ own ρ σ H Q Qv R hr hq => h Φ own ρ σ H _ _ R hr fun v H' d R' g rp q => by
  cases d with
  | lst ds =>
    obtain ⟨a, vs, rfl, ba, rd, hz, rs⟩ := rp.sqL
    refine ⟨a, rfl, ⟨vs, .inl (.inl rd)⟩, hq _ H' ds R' g (itok_seq (G := fun H => SqL K.K H a vs) hz (by rw [← rs.length]; exact walk_list) (fun H2 k => Or.inl (Or.inl (k _ _ ba rd))) rs (.inl fun _ h => h)) q⟩
  | _ => exact q.elim
theorem ir_listB (h : DEr K false te re) : DIr K false (iList K.K te) (rImmL (riL re)) := fun Φ own ρ σ H Q Qv R hr hq => h Φ own ρ σ H _ _ R hr fun v H' d R' g rp q => by
  cases d with
  | lst ds =>
    obtain ⟨a, vs, rfl, ba, rd, hz, rs⟩ := rp.sqL
    refine ⟨a, rfl, ⟨vs, .inl (.inl rd)⟩, hq _ H' ds R' g (itok_seq (G := fun H => SqL K.K H a vs) hz (by rw [← rs.length]; exact walk_list) (fun H2 k => Or.inl (Or.inl (k _ _ ba rd))) rs (.inr q.1)) q.2⟩
  | _ => exact q.elim
theorem Reps.sqT {K : Ct} {B : Addr → Prop} {H : Hp} {v : V} {ds : List D} (h : Rep K B H v (.tup ds)) : ∃ a vs, v = .ref a ∧ (∀ H2, Keeps B H H2 → SqT K.K H2 a vs) ∧ vs.length ≤ sizeLine ∧ Reps K B H vs ds := by
  cases h with
  | tup b r z t => exact ⟨_, _, rfl, fun H2 k => .inl (keeps_rd k b r), z, t⟩
  | tupK w z t => exact ⟨_, _, rfl, fun H2 k => .inr w, z, t⟩
theorem ir_tup (h : DEr K true te re) : DIr K true (iTup K.K te) (riT re) := fun Φ own ρ σ H Q Qv R hr hq => h Φ own ρ σ H _ _ R hr fun v H' d R' g rp q => by
  cases d with
  | tup ds =>
    obtain ⟨a, vs, rfl, sq, hz, rs⟩ := Reps.sqT rp
    refine ⟨a, rfl, ⟨vs, sq H' fun _ _ _ e => e⟩, hq _ H' ds R' g (itok_seq hz (by rw [← rs.length]; exact walk_tup) sq rs (.inl fun _ h => h)) q⟩
  | _ => exact q.elim
theorem i_list (h : DE X true e te re) : DI X true tg e (iList X.K te) (riL re) := ⟨pi_list h.pe, ir_list h.rd⟩
theorem i_listB (h : DE X false e te re) : DI X false tg e (iList X.K te) (rImmL (riL re)) := ⟨pi_list h.pe, ir_listB h.rd⟩
theorem i_tup (h : DE X true e te re) : DI X true tg e (iTup X.K te) (riT re) := ⟨pi_tup h.pe, ir_tup h.rd⟩
/-- range(n), range(a, b) -/
def rangeD (lo : Int) (n : Nat) : List D := (List.range n).map fun (i : Nat) => D.int (lo + (i : Int))
def riR1 (rs : RAs) : RI := fun ρ Q => rs ρ fun ds => match ds with
  | [.int n] => (-(2 ^ 62) ≤ n ∧ n ≤ 10000000) ∧ Q (rangeD 0 n.toNat)
  | _ => False
def riR2 (rs : RAs) : RI := fun ρ Q => rs ρ fun ds => match ds with
  | [.int a, .int b] => (-(2 ^ 62) ≤ a ∧ a < 2 ^ 62 ∧ -(2 ^ 62) ≤ b ∧ b < 2 ^ 62 ∧ b - a ≤ 10000000) ∧ Q (rangeD a (b - a).toNat)
  | _ => False
theorem itok_range {K : Ct} {Bk Bi : Addr → Prop} {H1 : Hp} {lo : Int} {n : Nat} (hn : n ≤ 10000000) : ItOk K Bk Bi H1 (Itr lo n) (rangeD lo n) := by
  have hl : (rangeD lo n).length = n := by simp [rangeD]
  refine ⟨_, _, by rw [hl, sizeLine_eq]; omega, by rw [hl]; exact walk_range, fun _ _ => trivial, fun B' i H x H' _ _ _ hi y => ?_⟩
  obtain ⟨rfl, rfl⟩ := y
  rw [hl] at hi
  exact ⟨fun _ _ h => h, .int (lo + i), by simp [rangeD, hi], .int _⟩
theorem i_range1 {a : Expr} {t : TA} {rs : RAs} {p : Pos} (hm : X.mg "range" = none) (ha : DA X b [a] t rs) (hg : Gl X "range" := by rfl) (hs : starEach [a] X.env = [(false, eval a X.env)] := by rfl) : DI X true tg (.Call (.Name "range" p) [a] [] pos) (iRng1 t) (riR1 rs) :=
  ⟨pi_range1 hg hm ha.pa hs, fun Φ own ρ σ H Q Qv R hr hq => ha.rd Φ own ρ σ H _ _ R hr fun vs H' ds R' g rp hl q => by
    match ds, vs, rp, q with
    | [.int n], _, .cons r .nil, q =>
      rw [r.isInt]
      have h1 := q.1.1; have h2 := q.1.2
      exact ⟨n, rfl, h1, by omega, hq _ H' _ R' g (itok_range (by omega)) q.2⟩⟩
theorem i_range2 {a c : Expr} {t : TA} {rs : RAs} {p : Pos} (hm : X.mg "range" = none) (ha : DA X b [a, c] t rs) (hg : Gl X "range" := by rfl) (hs : starEach [a, c] X.env = [(false, eval a X.env), (false, eval c X.env)] := by rfl) (hs2 : starEach [c] X.env = [(false, eval c X.env)] := by rfl) :
    DI X true tg (.Call (.Name "range" p) [a, c] [] pos) (iRng2 t) (riR2 rs) :=
  ⟨pi_range2 hg hm ha.pa hs hs2, fun Φ own ρ σ H Q Qv R hr hq => ha.rd Φ own ρ σ H _ _ R hr fun vs H' ds R' g rp hl q => by
    match ds, vs, rp, q with
    | [.int n, .int m], _, .cons r (.cons r2 .nil), q =>
      rw [r.isInt, r2.isInt]
      obtain ⟨h1, h2, h3, h4, h5⟩ := q.1
      exact ⟨n, m, rfl, ⟨h1, h2, h3, h4⟩, hq _ H' _ R' g (itok_range (by omega)) q.2⟩⟩

/-! ### for, while -/
def rFor (ri : RI) (gd : RG) (rb : RS) : RS := fun D ρ => ri ρ fun ds => ∃ W : Nat → En → Prop, W 0 ρ ∧
  (∀ k ρ' d, ds[k]? = some d → W k ρ' → gd d ρ' fun ρ2 => rb { nx := W (k + 1), ct := W (k + 1), bk := D.nx, rt := D.rt } ρ2) ∧ ∀ ρ', W ds.length ρ' → D.nx ρ'
theorem dsr_for {K : Ct} {wi : TI} {ri : RI} {g : TG} {is : List Nat} {gd : RG} {tb : TS} {rb : RS} (hi : DIr K true wi ri) (hg : DGr K g is gd) (hb : DSr K tb rb) : DSr K (tFor wi g tb) (rFor ri gd rb) := by
  intro Φ own ρ σ H Dd E R hr l
  refine hi Φ own ρ σ H _ _ R hr fun J H1 ds R1 g1 it q => ?_
  obtain ⟨W, w0, step, fin⟩ := q
  obtain ⟨G, Y, _, wk, hG, hY⟩ := it
  refine for_it wk (fun i σ' H' => ∃ own' ρ', Rel K Φ own' ρ' σ' H' ∧ Evo Φ own H1 own' H' ∧ W i ρ') ⟨own, ρ, R1, Evo.refl, w0⟩ (fun i σ' H' _ p => ?_) (fun i x σ' H' H2 hi' p y => ?_) fun σ' H' p => ?_
  · obtain ⟨own', ρ', R', ev, _⟩ := p
    exact hG H' fun a o hb e => (ev a o hb e).1
  · obtain ⟨own', ρ', R', ev, w⟩ := p
    obtain ⟨s, d, ed, rp⟩ := hY (Φ.B own' true) i H' x H2 (fun a hb hn => by
      cases e : H1 a with
      | none => exact absurd e hn
      | some o => exact (ev a o hb e).2) R'.mu (fun a o hb e => (ev a o hb e).1) hi' y
    refine hg Φ own' ρ' σ' H2 x d _ _ (R'.same s) rp (step i ρ' d ed w) fun ρ2 σ2 R2 _ _ q2 => ?_
    refine hb Φ own' ρ2 σ2 H2 _ _ R2 q2 ?_
    have ev2 : Evo Φ own H1 own' H2 := ev.trans fun a o hb e => ⟨s a o e, hb⟩
    exact ⟨fun own3 ρ3 σ3 H3 R3 ev3 w3 => ⟨own3, ρ3, R3, ev2.trans ev3, w3⟩, fun own3 ρ3 σ3 H3 R3 ev3 w3 => l.nx own3 ρ3 σ3 H3 R3 ((R.evo g1).trans (ev2.trans ev3)) w3, fun own3 ρ3 σ3 H3 R3 ev3 w3 => ⟨own3, ρ3, R3, ev2.trans ev3, w3⟩, l.rt⟩
  · obtain ⟨own', ρ', R', ev, w⟩ := p
    exact l.nx own' ρ' σ' H' R' ((R.evo g1).trans ev) (fin ρ' w)
theorem s_for {iter : Expr} {body : List Stmt} {wi : TI} {ri : RI} {g : TG} {is : List Nat} {gd : RG} {rb : RS} (hp : PassesOwn (model X.prog X.w) X.A X.env X.xe) (hc : X.calm = true) (hi : DI X true tg iter wi ri) (hg : DG X tg g is gd) (hb : DSs X body rb)
    (hs : ∀ x, foldedSetIterable iter X.env x = pure x := by intro _; rfl) : DS X (.For tg iter body [] pos) (rFor ri gd rb) := by
  obtain ⟨ts, p, q⟩ := hb.ex
  exact ⟨_, ps_for hp hc hi.pi hg.pg p hs, dsr_for hi.rd hg.rd q⟩
def rWhile (rc : RT) (rb : RS) : RS := fun D ρ => ∃ W : Nat → En → Prop, (∃ m, W m ρ) ∧ ∀ m ρ', W m ρ' →
  rc ρ' fun k => if k = true then rb { nx := fun ρ2 => ∃ m', m' < m ∧ W m' ρ2, ct := fun ρ2 => ∃ m', m' < m ∧ W m' ρ2, bk := D.nx, rt := D.rt } ρ' else D.nx ρ'
theorem s_while {c : Expr} {body : List Stmt} {tc : TT} {rc : RT} {rb : RS} (hp : PassesOwn (model X.prog X.w) X.A X.env X.xe) (hc : DT X c tc rc) (hb : DSs X body rb) : DS X (.While c body [] pos) (rWhile rc rb) := by
  obtain ⟨ts, p, q⟩ := hb.ex
  refine ⟨_, ps_while hp hc.pt p, fun Φ own ρ σ H Dd E R hr l => ?_⟩
  obtain ⟨W, ⟨m0, w0⟩, step⟩ := hr
  refine ⟨fun m σ' H' => ∃ own' ρ', Rel X.ct Φ own' ρ' σ' H' ∧ Evo Φ own H own' H' ∧ W m ρ', ⟨m0, own, ρ, R, Evo.refl, w0⟩, ?_⟩
  rintro m σ' H' ⟨own', ρ', R', ev, w⟩
  refine hc.rd Φ own' ρ' σ' H' _ _ R' (step m ρ' w) fun k H2 R2 g2 h2 => ?_
  have ev2 : Evo Φ own H own' H2 := ev.trans (R'.evo g2)
  cases k with
  | true =>
    refine ⟨fun σ3 H3 => ∃ m', m' < m ∧ ∃ own3 ρ3, Rel X.ct Φ own3 ρ3 σ3 H3 ∧ Evo Φ own H own3 H3 ∧ W m' ρ3, fun σ3 H3 h => h, ?_⟩
    refine q Φ own' ρ' σ' H2 _ _ R2 h2 ?_
    exact ⟨fun own3 ρ3 σ3 H3 R3 ev3 ⟨m', lt, w3⟩ => ⟨m', lt, own3, ρ3, R3, ev2.trans ev3, w3⟩, fun own3 ρ3 σ3 H3 R3 ev3 w3 => l.nx own3 ρ3 σ3 H3 R3 (ev2.trans ev3) w3, fun own3 ρ3 σ3 H3 R3 ev3 ⟨m', lt, w3⟩ => ⟨m', lt, own3, ρ3, R3, ev2.trans ev3, w3⟩, l.rt⟩
  | false => exact l.nx own' ρ' σ' H2 R2 ev2 h2

/-! ### comprehensions -/
def wipeE (ρ : En) : List Nat → En
  | [] => ρ
  | v :: vs => (wipeE ρ vs).set v .emp
theorem Rel.wiped {K : Ct} {Φ : Frm} {own : Ow} {ρ : En} {σ : L2.St} {H : Hp} (R : Rel K Φ own ρ σ H) : ∀ vs : List Nat, Rel K Φ own (wipeE ρ vs) (wipe σ vs) H
  | [] => R
  | v :: vs => (R.wiped vs).setEmp v none
theorem wipe_get (τ : L2.St) (j : Nat) : ∀ vs : List Nat, (wipe τ vs)[j]? = if j ∈ vs ∧ j < τ.length then some none else τ[j]?
  | [] => by simp [wipe]
  | v :: vs => by
    unfold wipe
    have ih := wipe_get τ j vs
    by_cases e : v = j
    · subst e
      by_cases hl : v < τ.length
      · rw [List.getElem?_set_self (by rw [wipe_length]; exact hl), if_pos ⟨List.mem_cons_self, hl⟩]
      · rw [List.getElem?_eq_none (by rw [List.length_set, wipe_length]; omega), if_neg (fun z => hl z.2), List.getElem?_eq_none (by omega)]
    · rw [List.getElem?_set_ne e, ih]
      have : (j ∈ v :: vs ∧ j < τ.length) ↔ (j ∈ vs ∧ j < τ.length) := by
        rw [List.mem_cons]
        constructor
        · rintro ⟨z | z, h⟩
          · exact absurd z.symm e
          · exact ⟨z, h⟩
        · rintro ⟨z, h⟩; exact ⟨.inr z, h⟩
      simp only [this]
theorem wipe_ext {σ σ' : L2.St} {vs is : List Nat} (hl : σ'.length = (wipe σ vs).length) (h : ∀ j, j ∉ is → σ'[j]? = (wipe σ vs)[j]?) (hi : ∀ j ∈ is, j ∈ vs) : wipe σ' vs = wipe σ vs := by
  rw [wipe_length] at hl
  refine List.ext_getElem? fun j => ?_
  rw [wipe_get σ' j vs, wipe_get σ j vs, hl]
  by_cases hj : j ∈ vs ∧ j < σ.length
  · rw [if_pos hj, if_pos hj]
  · rw [if_neg hj, if_neg hj]
    by_cases hl2 : j < σ.length
    · have nj : j ∉ vs := fun z => hj ⟨z, hl2⟩
      rw [h j fun z => nj (hi j z), wipe_get, if_neg hj]
    · rw [List.getElem?_eq_none (by omega), List.getElem?_eq_none (by omega)]
/-- one's own object that stands in no slot is written -/
theorem Rel.touch {K : Ct} {Φ : Frm} {own : Ow} {ρ : En} {σ : L2.St} {H H' : Hp} {a : Addr} (R : Rel K Φ own ρ σ H) (m : a ∈ own) (ap : ∀ (j : Nat) (e : D), ρ[j]? = some (.own e) → σ[j]? ≠ some (some (.ref a))) (hk : ∀ q, q ≠ a → H' q = H q) (mu : Mut (H' a)) :
    Rel K Φ own ρ σ H' := by
  have ks : Keeps (Φ.B own true) H H' := fun q o hb e => by rw [hk q fun z => hb.2 (by rw [z]; exact m)]; exact e
  have nsx := R.ownNsx m
  refine ⟨fun j u hj => ?_, R.inj, fun q hq => ?_, R.sep, fun q c e => ?_, fun q o e hn => ?_, R.lr⟩
  · have q := R.slots j u hj
    cases u with
    | emp => trivial
    | val d => obtain ⟨v, e, r⟩ := q; exact ⟨v, e, r.mono ks⟩
    | own d =>
      obtain ⟨a2, e, m2, r⟩ := q
      have na : a2 ≠ a := fun z => ap j d hj (by rw [← z]; exact join_some e)
      exact ⟨a2, e, m2, r.mono (fun _ b _ => b) ks fun o e => by rw [hk _ na]; exact e⟩
    | src => exact q
  · by_cases e : q = a
    · subst e; exact mu
    · rw [hk q e]; exact R.mu q hq
  · obtain ⟨n1, n2, s⟩ := R.src q c e
    refine ⟨n1, n2, ?_⟩
    obtain ⟨ns, l, m', t, h1, h2, h3⟩ := s
    exact ⟨ns, l, m', t, by rw [hk q fun z => nsx ⟨q, c, e, .inl z.symm⟩]; exact h1, by rw [hk c fun z => nsx ⟨q, c, e, .inr z.symm⟩]; exact h2, h3⟩
  · rw [hk q fun z => ?_]
    · exact R.keep q o e hn
    · subst z
      rw [(R.sep _ m).2] at e; cases e
/-- [elt for target in iter if test] -/
def rLc (ri : RI) (gd : RG) (rc : RT) (re : RE) (vs : List Nat) : RE := fun ρ Q => ri ρ fun ds => ∃ W : Nat → List D → Prop, W 0 [] ∧
  (∀ k acc d, ds[k]? = some d → W k acc → gd d (wipeE ρ vs) fun ρ' => rc ρ' fun c => if c = true then re ρ' fun x => W (k + 1) (acc ++ [x]) else W (k + 1) acc) ∧ ∀ acc, W ds.length acc → Q (.lst acc)
theorem dfr_lc {K : Ct} {b : Bool} {wi : TI} {ri : RI} {g : TG} {is vs : List Nat} {gd : RG} {tt : TT} {rc : RT} {te : TE} {re : RE} (hi : DIr K b wi ri) (hg : DGr K g is gd) (hv : ∀ j ∈ is, j ∈ vs) (hc : DTr K tt rc) (he : DEr K true te re) : DFr K (tLc wi g tt te vs) (rLc ri gd rc re vs) := by
  intro Φ own ρ σ H Q Qv R hr hq
  refine hi Φ own ρ σ H _ _ R hr fun J H1 ds R1 g1 it q => ?_
  obtain ⟨W, w0, step, fin⟩ := q
  obtain ⟨G, Y, hz, wk, hG, hY⟩ := it
  intro Dl hn
  have nsx : ¬ Φ.sx Dl := R1.fresh (b := false) hn
  have ap : ∀ (j : Nat) (e : D), ρ[j]? = some (.own e) → σ[j]? ≠ some (some (.ref Dl)) := fun j e hj hz => by
    obtain ⟨a, ha, m, _⟩ := R1.ownAt hj
    rw [ha] at hz; cases hz
    exact mut_some (R1.ownMut m) hn
  refine lc_it wk (fun i H' => i ≤ ds.length ∧ ∃ acc va, H' Dl = some (.lst va) ∧ Reps K (Φ.B (Dl :: own) true) H' va acc ∧ Rel K Φ (Dl :: own) ρ σ H' ∧ Grow Φ H1 H' ∧ acc.length ≤ i ∧ W i acc)
    ⟨Nat.zero_le _, [], [], upd_same, .nil, R1.add hn trivial, same_grow (same_new hn), Nat.le_refl _, w0⟩ (fun i H' _ p => ?_) (fun i x H' H2 hi' p y => ?_) fun H' p => ?_
  · obtain ⟨_, acc, va, _, _, _, gr, _, _⟩ := p
    exact hG H' (R1.keeps gr)
  · obtain ⟨_, acc, va, eD, ra, R', gr, la, w⟩ := p
    obtain ⟨s, d, ed, rp⟩ := hY (Φ.B (Dl :: own) true) i H' x H2 (fun a hb hn' => Rel.B_to hn a hb hn') R'.mu (R1.keeps gr) hi' y
    have R2 := R'.same s
    refine hg Φ (Dl :: own) (wipeE ρ vs) (wipe σ vs) H2 x d _ _ (R2.wiped vs) rp (step i acc d ed w) fun ρ3 σ3 R3 o3 l3 q3 => ⟨wipe_ext l3 o3 hv, ?_⟩
    refine hc Φ (Dl :: own) ρ3 σ3 H2 _ _ R3 q3 fun k H4 R4 g4 q4 => ?_
    have R5 : Rel K Φ (Dl :: own) ρ σ H4 := R2.grow g4 fun a c e => (R4.src a c e).2.2
    have m : Dl ∈ Dl :: own := List.mem_cons_self
    cases k with
    | true =>
      refine he Φ (Dl :: own) ρ3 σ3 H4 _ _ R4 q4 fun v H6 e R6 g6 re6 w6 => ?_
      have R7 : Rel K Φ (Dl :: own) ρ σ H6 := R5.grow g6 fun a c e => (R6.src a c e).2.2
      have e6 : H6 Dl = some (.lst va) := g6 Dl _ nsx (g4 Dl _ nsx (s _ _ eD))
      refine ⟨va, e6, ?_, hi', acc ++ [e], va ++ [v], upd_same, ?_, R7.touch m ap (fun q hq => upd_ne hq) (by rw [upd_same]; trivial), ?_, by simp; omega, w6⟩
      · rw [ra.length]; exact Nat.lt_of_le_of_lt la (Nat.lt_of_lt_of_le hi' hz)
      · have k7 : Keeps (Φ.B (Dl :: own) true) H6 (upd H6 Dl (.lst (va ++ [v]))) := fun q o hb e => by rw [upd_ne fun z => hb.2 (by rw [z]; exact m)]; exact e
        exact ((((ra.mono (same_keeps s)).mono (R2.keeps g4)).mono (R5.keeps g6)).append (.cons re6 .nil)).mono k7
      · intro q o hx e
        have hq : q ≠ Dl := fun z => by subst z; rw [hn] at e; cases e
        rw [upd_ne hq]
        exact g6 q o hx (g4 q o hx (s q o (gr q o hx e)))
    | false =>
      exact ⟨hi', acc, va, g4 Dl _ nsx (s _ _ eD), (ra.mono (same_keeps s)).mono (R2.keeps g4), R5, fun q o hx e => g4 q o hx (s q o (gr q o hx e)), by omega, q4⟩
  · obtain ⟨_, acc, va, eD, ra, R', gr, la, w⟩ := p
    exact hq Dl H' (.lst acc) R' (g1.trans gr) (R1.back g1 hn) ⟨va, eD, by rw [ra.length]; omega, ra⟩ (fin acc w)
end
end DL
end
section
set_option maxRecDepth 100000
/-! DFn: comprehensions as expressions, defs by their bodies. -/
namespace DL
open PySem PySem.Spec L2
open PyProof.Rows (envOfC)

section
variable {X : Cx} {b : Bool} {elt tg iter c : Expr} {scope : Scope} {own : List (Str × Nat)} {pos : Pos} {wi : TI} {ri : RI} {g : TG} {is : List Nat} {gd : RG} {tt : TT} {rc : RT} {te : TE} {re : RE}
def rYes : RT := fun _ Q => Q true
theorem dtr_yes {K : Ct} : DTr K tYes rYes := fun Φ own ρ σ H Q Qv R hr hq => hq true H R Grow.refl hr
theorem subs (own : List (Str × Nat)) (is : List Nat) (h : (is.all fun j => (own.map (·.2)).contains j) = true) : ∀ j ∈ is, j ∈ own.map (·.2) := fun j hj => by
  have := List.all_eq_true.mp h j hj
  simpa using this
theorem e_lc (own : List (Str × Nat)) (hc : X.calm = true) (hN : X.N.Nodup) (hi : DI X b tg iter wi ri) (ok : BlkOk X.N X.env.scope scope own)
    (hg : ∀ (s : Shared) (H : Hp) (C : Addr) (cl : List (Str × Addr)) (fp : List Addr), DG (X.blk s H scope (compEnvC scope cl C X.env) fp) tg g is gd)
    (he : ∀ (s : Shared) (H : Hp) (C : Addr) (cl : List (Str × Addr)) (fp : List Addr), DE (X.blk s H scope (compEnvC scope cl C X.env) fp) true elt te re)
    (hv : (is.all fun j => (own.map (·.2)).contains j) = true := by decide) (hs : ∀ x, foldedSetIterable iter X.env x = pure x := by intro _; rfl) :
    DF X (.ListComp elt [⟨tg, iter, [], 0⟩] scope pos) (tLc wi g tYes te (own.map (·.2))) (rLc ri gd rYes re (own.map (·.2))) :=
  ⟨pe_lc hc hN hi.pi ok (fun s H C cl fp => (hg s H C cl fp).pg) (fun _ _ _ _ _ => pts_nil) (fun s H C cl fp => (he s H C cl fp).pe) hs,
    dfr_lc hi.rd (hg X.s_0 X.H_0 0 [] []).rd (subs own is hv) dtr_yes (he X.s_0 X.H_0 0 [] []).rd⟩
theorem e_lcif (own : List (Str × Nat)) (hc : X.calm = true) (hN : X.N.Nodup) (hi : DI X b tg iter wi ri) (ok : BlkOk X.N X.env.scope scope own)
    (hg : ∀ (s : Shared) (H : Hp) (C : Addr) (cl : List (Str × Addr)) (fp : List Addr), DG (X.blk s H scope (compEnvC scope cl C X.env) fp) tg g is gd)
    (ht : ∀ (s : Shared) (H : Hp) (C : Addr) (cl : List (Str × Addr)) (fp : List Addr), DT (X.blk s H scope (compEnvC scope cl C X.env) fp) c tt rc)
    (he : ∀ (s : Shared) (H : Hp) (C : Addr) (cl : List (Str × Addr)) (fp : List Addr), DE (X.blk s H scope (compEnvC scope cl C X.env) fp) true elt te re)
    (hv : (is.all fun j => (own.map (·.2)).contains j) = true := by decide) (hs : ∀ x, foldedSetIterable iter X.env x = pure x := by intro _; rfl) :
    DF X (.ListComp elt [⟨tg, iter, [c], 0⟩] scope pos) (tLc wi g tt te (own.map (·.2))) (rLc ri gd rc re (own.map (·.2))) :=
  ⟨pe_lc hc hN hi.pi ok (fun s H C cl fp => (hg s H C cl fp).pg) (fun s H C cl fp => pts_one (ht s H C cl fp).pt) (fun s H C cl fp => (he s H C cl fp).pe) hs,
    dfr_lc hi.rd (hg X.s_0 X.H_0 0 [] []).rd (subs own is hv) (ht X.s_0 X.H_0 0 [] []).rd (he X.s_0 X.H_0 0 [] []).rd⟩
/-- x = [..] -/
theorem s_setLc (i : Nat) {y : Str} {py spos : Pos} (own : List (Str × Nat)) (hc : X.calm = true) (hN : X.N.Nodup) (hsw : swapsWith (.ListComp elt [⟨tg, iter, [], 0⟩] scope pos) (some (.Name y py)) spos.line X.env = pure true) (hi : DI X b tg iter wi ri) (ok : BlkOk X.N X.env.scope scope own)
    (hg : ∀ (s : Shared) (H : Hp) (C : Addr) (cl : List (Str × Addr)) (fp : List Addr), DG (X.blk s H scope (compEnvC scope cl C X.env) fp) tg g is gd)
    (he : ∀ (s : Shared) (H : Hp) (C : Addr) (cl : List (Str × Addr)) (fp : List Addr), DE (X.blk s H scope (compEnvC scope cl C X.env) fp) true elt te re)
    (hy : X.N[i]? = some y := by rfl) (hyl : X.env.scope.names.lookup y = some .local := by rfl)
    (hv : (is.all fun j => (own.map (·.2)).contains j) = true := by decide) (hs : ∀ x, foldedSetIterable iter X.env x = pure x := by intro _; rfl) :
    DS X (.Assign [.Name y py] (.ListComp elt [⟨tg, iter, [], 0⟩] scope pos) spos) (rSet i (rLc ri gd rYes re (own.map (·.2)))) :=
  ⟨_, ps_setLc hc hN hy hyl hsw hi.pi ok (fun s H C cl fp => (hg s H C cl fp).pg) (fun _ _ _ _ _ => pts_nil) (fun s H C cl fp => (he s H C cl fp).pe) hs,
    dsr_set (DF.der (dfr_lc hi.rd (hg X.s_0 X.H_0 0 [] []).rd (subs own is hv) dtr_yes (he X.s_0 X.H_0 0 [] []).rd))⟩
theorem s_setLcif (i : Nat) {y : Str} {py spos : Pos} (own : List (Str × Nat)) (hc : X.calm = true) (hN : X.N.Nodup) (hsw : swapsWith (.ListComp elt [⟨tg, iter, [c], 0⟩] scope pos) (some (.Name y py)) spos.line X.env = pure true) (hi : DI X b tg iter wi ri) (ok : BlkOk X.N X.env.scope scope own)
    (hg : ∀ (s : Shared) (H : Hp) (C : Addr) (cl : List (Str × Addr)) (fp : List Addr), DG (X.blk s H scope (compEnvC scope cl C X.env) fp) tg g is gd)
    (ht : ∀ (s : Shared) (H : Hp) (C : Addr) (cl : List (Str × Addr)) (fp : List Addr), DT (X.blk s H scope (compEnvC scope cl C X.env) fp) c tt rc)
    (he : ∀ (s : Shared) (H : Hp) (C : Addr) (cl : List (Str × Addr)) (fp : List Addr), DE (X.blk s H scope (compEnvC scope cl C X.env) fp) true elt te re)
    (hy : X.N[i]? = some y := by rfl) (hyl : X.env.scope.names.lookup y = some .local := by rfl)
    (hv : (is.all fun j => (own.map (·.2)).contains j) = true := by decide) (hs : ∀ x, foldedSetIterable iter X.env x = pure x := by intro _; rfl) :
    DS X (.Assign [.Name y py] (.ListComp elt [⟨tg, iter, [c], 0⟩] scope pos) spos) (rSet i (rLc ri gd rc re (own.map (·.2)))) :=
  ⟨_, ps_setLc hc hN hy hyl hsw hi.pi ok (fun s H C cl fp => (hg s H C cl fp).pg) (fun s H C cl fp => pts_one (ht s H C cl fp).pt) (fun s H C cl fp => (he s H C cl fp).pe) hs,
    dsr_set (DF.der (dfr_lc hi.rd (hg X.s_0 X.H_0 0 [] []).rd (subs own is hv) (ht X.s_0 X.H_0 0 [] []).rd (he X.s_0 X.H_0 0 [] []).rd))⟩
end

/-! ### defs -/
section
variable {P : Program} {w : World} {K : PySem.W.Frag} {mg : Str → Option Value} {base : Heap} {x q : Str} {st : Stmt} {f : Addr} {fd : FuncData} {N ps : List Str} {k n : Nat} {Fs : DSp}
theorem get_rep {α β : Type} {f : α → β} {z : β} {l : List α} {m i : Nat} {y : β} (h : (l.map f ++ List.replicate m z)[i]? = some y) : (∃ a, l[i]? = some a ∧ y = f a) ∨ (l.length ≤ i ∧ y = z) := by
  by_cases hi : i < l.length
  · rw [List.getElem?_append_left (by simpa using hi), List.getElem?_map] at h
    rw [List.getElem?_eq_getElem hi] at h
    simp at h
    exact .inl ⟨l[i], List.getElem?_eq_getElem hi, h.symm⟩
  · rw [List.getElem?_append_right (by simpa using hi), List.getElem?_replicate] at h
    split at h
    · cases h; exact .inr ⟨by omega, rfl⟩
    · cases h
/-- a def that changes nothing -/
theorem fn_D (F : Fun K x q st f fd) (gm : mg x = some (.ref f)) (S : FnScope N ps (defScope st)) (hn : ps.length = n)
    (hb : ∀ (kV doc pm : Value) (an : Option Addr) (cdv ct : Value) (us : List Value), us.length = ps.length → bindArgs (PySem.W.fnOf x q (defArgs st) (defBody st) (defScope st) .none kV doc pm an cdv ct) ⟨us, []⟩ = pure (ps.zip us))
    (body : ∀ (cdv : Value) (A : Around) (outer : List Env) (s : Shared) (H : Hp) (E : XK), RoomG k (A.deeper (envOfC q (defScope st) s.heap.objs.size f cdv)) →
      ∃ r, DSs (cxOf CX0 P w K mg base N q (defScope st) f cdv A outer s H E).nox (defBody st) r ∧ ∀ (ds : List D) (R : D → Prop), ds.length = n → Fs ds R → r { nx := fun _ => R .non, rt := R } (ds.map Sl.val ++ List.replicate (N.length - n) Sl.emp)) :
    Df P w K mg base x (k + 1) (spD ⟨K, w⟩ n Fs) := by
  refine ⟨f, fd, ps, gm, F.kp, F.binds hb, fun_G F S (fun vs H Q E h => ?_) (fun cdv A outer s H vs Q E hr h => ?_)⟩
  · obtain ⟨B, ds, R, hl, _, rp, _⟩ := h
    rw [rp.length, hl, hn]
  · obtain ⟨B, ds, R, hl, mu, rp, hF, fin⟩ := h
    obtain ⟨r, hr', hq⟩ := body cdv A outer s H E hr
    obtain ⟨ts, hts, hd⟩ := hr'.ex
    refine ⟨ts, hts, ?_⟩
    have hpl : ps.length ≤ N.length := by have := congrArg List.length S.pre; rw [List.length_take] at this; omega
    refine hd ⟨B, none, H⟩ [] (ds.map Sl.val ++ List.replicate (N.length - n) Sl.emp) (L2.start N vs) H { nx := fun _ => R .non, rt := R } { nx := fun _ H' => Q .non H', rt := Q } ?_ (hq ds R hl hF) ?_
    · refine ⟨fun i sl h => ?_, fun i j d e y h1 _ _ _ => ?_, fun a h => mu a fun z => h ⟨z, by simp⟩, fun a h => by simp at h, (fun a c e => by cases e), fun p o e _ => e, ?_⟩
      · rcases get_rep h with ⟨d, hd, rfl⟩ | ⟨_, rfl⟩
        · obtain ⟨v, hv, r⟩ := rp.getD hd
          refine ⟨v, ?_, r.wk fun a h => ⟨h, by simp⟩⟩
          have hi := (List.getElem?_eq_some_iff.mp hv).1
          unfold L2.start
          rw [List.getElem?_append_left (by simpa using hi), List.getElem?_map, hv]
          rfl
        · trivial
      · rcases get_rep h1 with ⟨d, _, z⟩ | ⟨_, z⟩ <;> cases z
      · unfold L2.start
        rw [List.length_append, List.length_append, List.length_map, List.length_map, List.length_replicate, List.length_replicate, rp.length, hl]
    · exact ⟨fun own' ρ' σ' H' R' _ h => fin .non H' .non h (fun p o e => R'.keep p o e fun ⟨_, _, z, _⟩ => nomatch z) .non, fun _ _ _ _ _ _ h => h.elim, fun _ _ _ _ _ _ h => h.elim, fun v H' d hf h => fin v H' d h (fun p o e => hf.1 p o e fun ⟨_, _, z, _⟩ => nomatch z) hf.2.2⟩
/-- a def that draws: its first parameter is the source -/
theorem fn_S (F : Fun K x q st f fd) (gm : mg x = some (.ref f)) (S : FnScope N ps (defScope st)) (hn : ps.length = n + 1)
    (hb : ∀ (kV doc pm : Value) (an : Option Addr) (cdv ct : Value) (us : List Value), us.length = ps.length → bindArgs (PySem.W.fnOf x q (defArgs st) (defBody st) (defScope st) .none kV doc pm an cdv ct) ⟨us, []⟩ = pure (ps.zip us))
    (body : ∀ (cdv : Value) (A : Around) (outer : List Env) (s : Shared) (H : Hp) (E : XK), RoomG k (A.deeper (envOfC q (defScope st) s.heap.objs.size f cdv)) →
      ∃ r, DSs (cxOf CX0 P w K mg base N q (defScope st) f cdv A outer s H E).nox (defBody st) r ∧ ∀ (ds : List D) (R : D → Prop), ds.length = n → Fs ds R → r { nx := fun _ => R .non, rt := R } (Sl.src :: (ds.map Sl.val ++ List.replicate (N.length - n - 1) Sl.emp))) :
    Df P w K mg base x (k + 1) (spS ⟨K, w⟩ n Fs) := by
  refine ⟨f, fd, ps, gm, F.kp, F.binds hb, fun_G F S (fun vs H Q E h => ?_) (fun cdv A outer s H vs Q E hr h => ?_)⟩
  · obtain ⟨B, a, c, vs', ds, R, rfl, hl, _, _, _, _, rp, _⟩ := h
    rw [List.length_cons, rp.length, hl, hn]
  · obtain ⟨B, a, c, vs', ds, R, rfl, hl, mu, na, nc, src, rp, hF, fin⟩ := h
    obtain ⟨r, hr', hq⟩ := body cdv A outer s H E hr
    obtain ⟨ts, hts, hd⟩ := hr'.ex
    refine ⟨ts, hts, ?_⟩
    have hpl : ps.length ≤ N.length := by have := congrArg List.length S.pre; rw [List.length_take] at this; omega
    have sxo : ∀ p, Frm.sx ⟨B, some (a, c), H⟩ p → p = a ∨ p = c := fun p ⟨p', c', e, z⟩ => by cases e; exact z
    have nsx : ∀ p, p ≠ a → p ≠ c → ¬ Frm.sx ⟨B, some (a, c), H⟩ p := fun p h1 h2 z => (sxo p z).elim h1 h2
    refine hd ⟨B, some (a, c), H⟩ [] (Sl.src :: (ds.map Sl.val ++ List.replicate (N.length - n - 1) Sl.emp)) (L2.start N (.ref a :: vs')) H { nx := fun _ => R .non, rt := R } { nx := fun _ H' => Q .non H', rt := Q } ?_ (hq ds R hl hF) ?_
    · refine ⟨fun i sl h => ?_, fun i j d e y h1 _ _ _ => ?_, fun z h => mu z fun z' => h ⟨z', by simp⟩, fun z h => by simp at h, fun a' c' e => ?_, fun p o e _ => e, ?_⟩
      · cases i with
        | zero =>
          have e : sl = .src := by simpa using h.symm
          subst e
          exact ⟨a, c, rfl, rfl⟩
        | succ i =>
          rw [List.getElem?_cons_succ] at h
          rcases get_rep h with ⟨d, hd, rfl⟩ | ⟨_, rfl⟩
          · obtain ⟨v, hv, r⟩ := rp.getD hd
            refine ⟨v, ?_, r.wk fun a h => ⟨h, by simp⟩⟩
            have hi := (List.getElem?_eq_some_iff.mp hv).1
            unfold L2.start
            rw [List.getElem?_append_left (by simpa using hi), List.getElem?_map, List.getElem?_cons_succ, hv]
            rfl
          · trivial
      · cases i with
        | zero => simp at h1
        | succ i =>
          rw [List.getElem?_cons_succ] at h1
          rcases get_rep h1 with ⟨d, _, z⟩ | ⟨_, z⟩ <;> cases z
      · cases e; exact ⟨na, nc, src⟩
      · unfold L2.start
        rw [List.length_cons, List.length_append, List.length_append, List.length_map, List.length_map, List.length_replicate, List.length_replicate, List.length_cons, rp.length, hl]
        omega
    · exact ⟨fun own' ρ' σ' H' R' _ h => fin .non H' .non h (fun p o h1 h2 e => R'.keep p o e (nsx p h1 h2)) (R'.src a c rfl).2.2 .non, fun _ _ _ _ _ _ h => h.elim, fun _ _ _ _ _ _ h => h.elim,
        fun v H' d hf h => fin v H' d h (fun p o h1 h2 e => hf.1 p o e (nsx p h1 h2)) (hf.2.1 a c rfl) hf.2.2⟩
end
end DL
end
section
set_option maxRecDepth 100000
/-! DBuilt: operators and built-in functions over data. -/
namespace DL
open PySem PySem.Spec L2

/-! ### ints -/
def oI (f : Int → Int → D) : RO := fun x y Q => match x, y with
  | .int i, .int j => Q (f i j)
  | _, _ => False
def oIC (C : Int → Int → Prop) (f : Int → Int → D) : RO := fun x y Q => match x, y with
  | .int i, .int j => C i j ∧ Q (f i j)
  | _, _ => False
theorem d_I0 {K : Ct} {g : Int → Int → V} {f : Int → Int → D} (h : ∀ B H i j, Rep K B H (g i j) (f i j)) : DOp K (rI0 g) (oI f) := fun B x y H d1 d2 Q Qv _ r1 r2 hq k => by
  match d1, d2, hq with
  | .int i, .int j, hq => exact ⟨i, j, r1.isInt, r2.isInt, k _ H _ (fun _ _ e => e) (h _ _ _ _) hq⟩
theorem d_IC {K : Ct} {C : Int → Int → Prop} {g : Int → Int → V} {f : Int → Int → D} (h : ∀ B H i j, Rep K B H (g i j) (f i j)) : DOp K (rI C g) (oIC C f) := fun B x y H d1 d2 Q Qv _ r1 r2 hq k => by
  match d1, d2, hq with
  | .int i, .int j, hq => exact ⟨i, j, r1.isInt, r2.isInt, hq.1, k _ H _ (fun _ _ e => e) (h _ _ _ _) hq.2⟩
section
variable {K : Ct}
theorem d_add : DOp K (rI0 fun i j => .int (i + j)) (oI fun i j => .int (i + j)) := d_I0 fun _ _ _ _ => .int _
theorem d_sub : DOp K (rI0 fun i j => .int (i - j)) (oI fun i j => .int (i - j)) := d_I0 fun _ _ _ _ => .int _
theorem d_mul : DOp K (rI CMulW fun i j => .int (i * j)) (oIC CMulW fun i j => .int (i * j)) := d_IC fun _ _ _ _ => .int _
theorem d_lt : DOp K (rI0 fun i j => .bl (decide (i < j))) (oI fun i j => .bl (decide (i < j))) := d_I0 fun _ _ _ _ => .bl _
theorem d_le : DOp K (rI0 fun i j => .bl (decide (i ≤ j))) (oI fun i j => .bl (decide (i ≤ j))) := d_I0 fun _ _ _ _ => .bl _
theorem d_gt : DOp K (rI0 fun i j => .bl (decide (j < i))) (oI fun i j => .bl (decide (j < i))) := d_I0 fun _ _ _ _ => .bl _
theorem d_ge : DOp K (rI0 fun i j => .bl (decide (j ≤ i))) (oI fun i j => .bl (decide (j ≤ i))) := d_I0 fun _ _ _ _ => .bl _
theorem d_mod : DOp K (rI (fun _ j => j ≠ 0) fun i j => .int (i.fmod j)) (oIC (fun _ j => j ≠ 0) fun i j => .int (i.fmod j)) := d_IC fun _ _ _ _ => .int _
theorem d_pow : DOp K (rI CPow fun i j => .int (i ^ j.toNat)) (oIC CPow fun i j => .int (i ^ j.toNat)) := d_IC fun _ _ _ _ => .int _
/-- // without the detour over Python's own text -/
def CFd (i j : Int) : Prop := j ≠ 0 ∧ (j.natAbs.log2 < 9000 ∨ i.natAbs.log2 < 13500)
theorem noPy {i j : Int} (h : CFd i j) : Builtin.divisionGoesByPylong i j = false := by
  rcases h.2 with h | h
  · exact PyProof.noPylong_of_log2 h
  · unfold Builtin.divisionGoesByPylong
    have hi : (if i == 0 then 0 else i.natAbs.log2 / 30 + 1) ≤ 450 := by split <;> omega
    have hj : (if j == 0 then 0 else j.natAbs.log2 / 30 + 1) = (if j == 0 then 0 else j.natAbs.log2 / 30 + 1) := rfl
    show (decide ((if j == 0 then 0 else j.natAbs.log2 / 30 + 1) > 300) && decide ((if i == 0 then 0 else i.natAbs.log2 / 30 + 1) > (if j == 0 then 0 else j.natAbs.log2 / 30 + 1) + 150)) = false
    by_cases q : (if j == 0 then 0 else j.natAbs.log2 / 30 + 1) > 300
    · rw [decide_eq_false (p := (if i == 0 then 0 else i.natAbs.log2 / 30 + 1) > (if j == 0 then 0 else j.natAbs.log2 / 30 + 1) + 150) (by omega), Bool.and_false]
    · rw [decide_eq_false q, Bool.false_and]
theorem op_fd {X : Cx} : OpR X (binaryOp .FloorDiv) (rI CFd fun i j => .int (i.fdiv j)) := opI fun i j _ _ _ _ _ hc q => PyProof.Rows.floordiv_int hc.1 q (.inl (noPy hc))
theorem d_fd : DOp K (rI CFd fun i j => .int (i.fdiv j)) (oIC CFd fun i j => .int (i.fdiv j)) := d_IC fun _ _ _ _ => .int _
def uI (f : Int → D) : RU1 := fun x Q => match x with
  | .int i => Q (f i)
  | _ => False
theorem d_neg : DUn K (rU fun i => .int (-i)) (uI fun i => .int (-i)) := fun B x H d1 Q Qv _ r1 hq k => by
  match d1, hq with
  | .int i, hq => exact ⟨i, r1.isInt, k _ H _ (fun _ _ e => e) (.int _) hq⟩

/-! ### items -/
theorem atI_0 {α : Type} {x : α} {xs : List α} : L2.atI (x :: xs) 0 = some x := atI_nat (j := 0) rfl
theorem atI_1 {α : Type} {x y : α} {xs : List α} : L2.atI (x :: y :: xs) 1 = some y := atI_nat (j := 1) rfl
theorem atI_2 {α : Type} {x y z : α} {xs : List α} : L2.atI (x :: y :: z :: xs) 2 = some z := atI_nat (j := 2) rfl
def oIxT : RO := fun x y Q => match x, y with
  | .tup ds, .int i => match atI ds i with
    | some d => Q d
    | none => False
  | _, _ => False
def oIxL : RO := fun x y Q => match x, y with
  | .lst ds, .int i => match atI ds i with
    | some d => Q d
    | none => False
  | _, _ => False
theorem Reps.atI {B : Addr → Prop} {H : Hp} {vs : List V} {ds : List D} (r : Reps K B H vs ds) {i : Int} {d : D} (h : L2.atI ds i = some d) : ∃ v, L2.atI vs i = some v ∧ Rep K B H v d := by
  unfold L2.atI at h ⊢
  rw [r.length]
  cases e : ixN ds.length i with
  | none => rw [e] at h; cases h
  | some j => rw [e] at h; exact r.getD h
theorem d_ixT : DOp K (rIxT K.K) oIxT := fun B x y H d1 d2 Q Qv _ r1 r2 hq k => by
  match d1, d2, hq with
  | .tup ds, .int i, hq =>
    have hq : match atI ds i with | some d => Q d | none => False := hq
    split at hq
    case h_2 => exact hq.elim
    rename_i d hd
    have q := hq
    obtain ⟨a, vs, rfl, sq, _, rs⟩ := r1.sqT
    obtain ⟨v, hv, rv⟩ := rs.atI hd
    exact ⟨a, vs, i, v, rfl, r2.isInt, sq, hv, k v H d (fun _ _ e => e) rv q⟩
theorem d_ixL : DOp K (rIxL K.K) oIxL := fun B x y H d1 d2 Q Qv _ r1 r2 hq k => by
  match d1, d2, hq with
  | .lst ds, .int i, hq =>
    have hq : match atI ds i with | some d => Q d | none => False := hq
    split at hq
    case h_2 => exact hq.elim
    rename_i d hd
    have q := hq
    obtain ⟨a, vs, rfl, _, e, _, rs⟩ := r1.sqL
    obtain ⟨v, hv, rv⟩ := rs.atI hd
    exact ⟨a, vs, i, v, rfl, r2.isInt, .inl (.inl e), hv, k v H d (fun _ _ e => e) rv q⟩

/-! ### built-in functions by values -/
def cI1 (f : Int → D) : RCs := fun ds Q => match ds with
  | [.int i] => Q (f i)
  | _ => False
theorem d_abs : DCl K (fun xs H Q => ∃ i, xs = [.int i] ∧ Q (.int (if i < 0 then -i else i)) H) (cI1 fun i => .int (if i < 0 then -i else i)) := fun B vs H ds Q Qv _ rp hq k => by
  match ds, vs, rp, hq with
  | [.int i], _, .cons r .nil, hq => rw [r.isInt]; exact ⟨i, rfl, k _ H _ (fun _ _ e => e) (.int _) hq⟩
def cInt : RCs := fun ds Q => match ds with
  | [.int i] => Q (.int i)
  | [.bl b] => Q (.int (if b then 1 else 0))
  | _ => False
theorem d_int : DCl K (fun xs H Q => (∃ i, xs = [.int i] ∧ Q (.int i) H) ∨ ∃ k, xs = [.bl k] ∧ Q (.int (if k then 1 else 0)) H) cInt := fun B vs H ds Q Qv _ rp hq k => by
  match ds, vs, rp, hq with
  | [.int i], _, .cons r .nil, hq => rw [r.isInt]; exact .inl ⟨i, rfl, k _ H _ (fun _ _ e => e) (.int _) hq⟩
  | [.bl i], _, .cons r .nil, hq => rw [r.isBl]; exact .inr ⟨i, rfl, k _ H _ (fun _ _ e => e) (.int _) hq⟩
/-- len of a tuple or list -/
def cLen : RCs := fun ds Q => match ds with
  | [.tup xs] => Q (.int xs.length)
  | [.lst xs] => Q (.int xs.length)
  | _ => False
theorem d_len : DCl K (fun xs H Q => ∃ x n, xs = [x] ∧ LenV K.K x H n ∧ Q (.int n) H) cLen := fun B vs H ds Q Qv _ rp hq k => by
  match ds, vs, rp, hq with
  | [.tup xs], _, .cons r .nil, hq =>
    obtain ⟨a, vs, rfl, sq, _, rs⟩ := r.sqT
    exact ⟨_, xs.length, rfl, .inr ⟨vs, sq, rs.length.symm⟩, k _ H _ (fun _ _ e => e) (.int _) hq⟩
  | [.lst xs], _, .cons r .nil, hq =>
    obtain ⟨a, vs, rfl, _, e, _, rs⟩ := r.sqL
    exact ⟨_, xs.length, rfl, .inl ⟨vs, .inl (.inl e), rs.length.symm⟩, k _ H _ (fun _ _ e => e) (.int _) hq⟩
/-- tuple(list), tuple(tuple) -/
def cTuple : RCs := fun ds Q => match ds with
  | [.tup xs] => Q (.tup xs)
  | [.lst xs] => Q (.tup xs)
  | _ => False
theorem d_tuple : DCl K (fun xs H Q => ∃ p ys, xs = [.ref p] ∧ ((SqL K.K H p ys ∧ ∀ l, H l = none → Q (.ref l) (upd H l (.tup ys))) ∨ (SqT K.K H p ys ∧ Q (.ref p) H))) cTuple := fun B vs H ds Q Qv fr rp hq k => by
  match ds, vs, rp, hq with
  | [.tup xs], _, .cons r .nil, hq =>
    have r' := r
    obtain ⟨a, vs, rfl, sq, _, rs⟩ := r.sqT
    exact ⟨a, vs, rfl, .inr ⟨sq, k _ H _ (fun _ _ e => e) r' hq⟩⟩
  | [.lst xs], _, .cons r .nil, hq =>
    obtain ⟨a, vs, rfl, _, e, hz, rs⟩ := r.sqL
    exact ⟨a, vs, rfl, .inl ⟨.inl (.inl e), fun l hl => k _ _ (.tup xs) (same_new hl) (.tup (fr l hl) (.inl upd_same) hz (rs.mono (same_keeps (same_new hl)))) hq⟩⟩
end
end DL
end
section
set_option maxRecDepth 100000
/-! DUni: operators for all sorts of values at once; lists and tuples walked alike; starred items. -/
namespace DL
open PySem PySem.Spec L2

theorem DOp.or {K : Ct} {r r' : R2} {a b : RO} (h : DOp K r a) (h' : DOp K r' b) : DOp K (fun x y H Q => r x y H Q ∨ r' x y H Q) (fun x y Q => a x y Q ∨ b x y Q) := fun B x y H d1 d2 Q Qv fr r1 r2 hq k => by
  rcases hq with hq | hq
  · exact .inl (h B x y H d1 d2 Q Qv fr r1 r2 hq k)
  · exact .inr (h' B x y H d1 d2 Q Qv fr r1 r2 hq k)
theorem DOp.imp {K : Ct} {r : R2} {a b : RO} (h : DOp K r a) (i : ∀ x y Q, b x y Q → a x y Q) : DOp K r b := fun B x y H d1 d2 Q Qv fr r1 r2 hq k => h B x y H d1 d2 Q Qv fr r1 r2 (i _ _ _ hq) k

section
variable {K : Ct}
/-! ### + -/
def oCatT : RO := fun x y Q => match x, y with
  | .tup a, .tup b => a.length + b.length ≤ sizeLine ∧ Q (.tup (a ++ b))
  | _, _ => False
theorem d_catT : DOp K (rCatA K.K) oCatT := fun B x y H d1 d2 Q Qv fr r1 r2 hq k => by
  match d1, d2, hq with
  | .tup xs, .tup ys, ⟨hz, q⟩ =>
    have r1' := r1
    have r2' := r2
    obtain ⟨a, vs, rfl, sq, z1, rs⟩ := r1.sqT
    obtain ⟨c, ws, rfl, sq2, z2, rs2⟩ := r2.sqT
    have hl : vs.length + ws.length ≤ sizeLine := by rw [rs.length, rs2.length]; exact hz
    refine ⟨a, c, vs, ws, rfl, rfl, sq, sq2, hl, fun e => ?_, fun _ e => ?_, fun _ _ p hp => ?_⟩
    · subst e
      have e2 : xs = [] := List.eq_nil_of_length_eq_zero rs.length.symm
      subst e2
      exact k _ H _ (fun _ _ e => e) r2' (by simpa using q)
    · subst e
      have e2 : ys = [] := List.eq_nil_of_length_eq_zero rs2.length.symm
      subst e2
      exact k _ H _ (fun _ _ e => e) r1' (by simpa using q)
    · have s := same_new (o := .tup (vs ++ ws)) hp
      exact k _ _ _ s (.tup (fr p hp) (.inl upd_same) (by rw [List.length_append]; exact hl) ((rs.append rs2).mono (same_keeps s))) q
def oCatL : RO := fun x y Q => match x, y with
  | .lst a, .lst b => a.length + b.length ≤ sizeLine ∧ Q (.lst (a ++ b))
  | _, _ => False
theorem d_catL : DOp K rCat oCatL := fun B x y H d1 d2 Q Qv fr r1 r2 hq k => by
  match d1, d2, hq with
  | .lst xs, .lst ys, ⟨hz, q⟩ =>
    obtain ⟨a, vs, rfl, _, e1, z1, rs⟩ := r1.sqL
    obtain ⟨c, ws, rfl, _, e2, z2, rs2⟩ := r2.sqL
    have hl : vs.length + ws.length ≤ sizeLine := by rw [rs.length, rs2.length]; exact hz
    refine ⟨a, c, vs, ws, rfl, rfl, e1, e2, hl, fun p hp => ?_⟩
    have s := same_new (o := .lst (vs ++ ws)) hp
    exact k _ _ _ s (.lst (fr p hp) upd_same (by rw [List.length_append]; exact hl) ((rs.append rs2).mono (same_keeps s))) q
def oAdd : RO := fun x y Q => match x, y with
  | .int i, .int j => Q (.int (i + j))
  | .tup a, .tup b => a.length + b.length ≤ sizeLine ∧ Q (.tup (a ++ b))
  | .lst a, .lst b => a.length + b.length ≤ sizeLine ∧ Q (.lst (a ++ b))
  | _, _ => False
def rAddU (K : PySem.W.Frag) : R2 := fun x y H Q => (rI0 fun i j => .int (i + j)) x y H Q ∨ (rCatA K x y H Q ∨ rCat x y H Q)
theorem op_addU {X : Cx} : OpR X (binaryOp .Add) (rAddU X.K) := op_add.or (op_catA.or op_cat)
theorem d_addU : DOp K (rAddU K.K) oAdd := (d_add.or (d_catT.or d_catL)).imp fun x y Q h => by
  match x, y, h with
  | .int i, .int j, h => exact .inl h
  | .tup a, .tup b, h => exact .inr (.inl h)
  | .lst a, .lst b, h => exact .inr (.inr h)

/-! ### *, of ints, of a tuple and an int -/
theorem op_mulU {X : Cx} : OpR X (binaryOp .Mult) (rI CMulW fun i j => .int (i * j)) := op_mulW
theorem d_mulU : DOp K (rI CMulW fun i j => .int (i * j)) (oIC CMulW fun i j => .int (i * j)) := d_mul

/-! ### gcd -/
def cGcd : RCs := fun ds Q => match ds with
  | [.int a, .int b] => Q (.int ((Nat.gcd a.natAbs b.natAbs : Nat) : Int))
  | _ => False
theorem d_gcd : DCl K rGcd cGcd := fun B vs H ds Q Qv _ rp hq k => by
  match ds, vs, rp, hq with
  | [.int a, .int b], _, .cons r (.cons r2 .nil), hq => rw [r.isInt, r2.isInt]; exact ⟨a, b, rfl, k _ H _ (fun _ _ e => e) (.int _) hq⟩
theorem e_gcd {X : Cx} {b : Bool} {e : Expr} {es : List Expr} {t : TA} {rs : RAs} {p pos : Pos} (hm : X.mg "gcd" = some (.builtin "math.gcd")) (ha : DA X b (e :: es) t rs) (hg : Gl X "gcd" := by rfl)
    (he : starEach (e :: es) X.env = (false, eval e X.env) :: starEach es X.env := by rfl) (hpl : (backTo pos (starEach es X.env)).any (·.1) = false := by rfl) : DE X b (.Call (.Name "gcd" p) (e :: es) [] pos) (tCB rGcd t) (rCl cGcd rs) :=
  ⟨pe_callBfun cr_gcd hg hm ha.pa (by decide) he hpl, der_cl d_gcd ha.rd⟩

/-! ### items -/
def oIx : RO := fun x y Q => match x, y with
  | .tup ds, .int i => match atI ds i with
    | some d => Q d
    | none => False
  | .lst ds, .int i => match atI ds i with
    | some d => Q d
    | none => False
  | _, _ => False
def rIxU (K : PySem.W.Frag) : R2 := fun x y H Q => rIxT K x y H Q ∨ rIxL K x y H Q
theorem ix_U {X : Cx} : IxR X (rIxU X.K) := ix_tup.or ix_list
theorem d_ixU : DOp K (rIxU K.K) oIx := (d_ixT.or d_ixL).imp fun x y Q h => by
  match x, y, h with
  | .tup ds, .int i, h => exact .inl h
  | .lst ds, .int i, h => exact .inr h

/-! ### == of data -/
mutual
/-- as the library's data; dicts are none -/
def D.pd : D → PyData
  | .non => .none
  | .bl b => .bool b
  | .int i => .int i
  | .str x => .str x
  | .tup xs => .tuple (D.pds xs)
  | .lst xs => .list (D.pds xs)
  | .dK _ => .none
  | .dN _ => .none
def D.pds : List D → List PyData
  | [] => []
  | x :: xs => x.pd :: D.pds xs
end
mutual
def D.nodict : D → Bool
  | .tup xs => D.nodicts xs
  | .lst xs => D.nodicts xs
  | .dK _ => false
  | .dN _ => false
  | .non => true
  | .bl _ => true
  | .int _ => true
  | .str _ => true
def D.nodicts : List D → Bool
  | [] => true
  | x :: xs => x.nodict && D.nodicts xs
end
mutual
theorem Rep.dp {B : Addr → Prop} {H : Hp} : ∀ {v : V} {d : D}, Rep K B H v d → d.nodict = true → Dp K.K H v d.pd
  | _, _, .non, _ => by simp only [D.pd]; exact .non
  | _, _, .bl b, _ => by simp only [D.pd]; exact .bl b
  | _, _, .int i, _ => by simp only [D.pd]; exact .int i
  | _, _, .str x, _ => by simp only [D.pd]; exact .str x
  | _, _, .tup b r z t, h => by simp only [D.pd]; exact .tup (.inl r) (Reps.dp t (by simpa only [D.nodict] using h))
  | _, _, .tupK w z t, h => by simp only [D.pd]; exact .tup (.inr w) (Reps.dp t (by simpa only [D.nodict] using h))
  | _, _, .lst b r z t, h => by simp only [D.pd]; exact .lst (.inl (.inl r)) (Reps.dp t (by simpa only [D.nodict] using h))
  | _, _, .dK b r t, h => by simp [D.nodict] at h
  | _, _, .dN b r t n, h => by simp [D.nodict] at h
theorem Reps.dp {B : Addr → Prop} {H : Hp} : ∀ {vs : List V} {ds : List D}, Reps K B H vs ds → D.nodicts ds = true → DpAll K.K H vs (D.pds ds)
  | _, _, .nil, _ => by simp only [D.pds]; exact .nil
  | _, _, .cons r t, h => by
    simp only [D.nodicts, Bool.and_eq_true] at h
    simp only [D.pds]
    exact .cons (Rep.dp r h.1) (Reps.dp t h.2)
end
/-- what == can be asked of: without dicts, not deep -/
def D.eqOk (d : D) : Bool := d.nodict && SeqAt.shaped d.pd
def eqD (x y : D) : Bool := PyData.eqv x.pd y.pd
def oEq : RO := fun x y Q => (x.eqOk = true ∧ y.eqOk = true) ∧ Q (.bl (eqD x y))
def oNe : RO := fun x y Q => (x.eqOk = true ∧ y.eqOk = true) ∧ Q (.bl (!eqD x y))
theorem d_eqD : DOp K (rEqD K.K) oEq := fun B x y H d1 d2 Q Qv fr r1 r2 hq k => by
  obtain ⟨⟨h1, h2⟩, q⟩ := hq
  unfold D.eqOk at h1 h2
  rw [Bool.and_eq_true] at h1 h2
  exact ⟨_, _, r1.dp h1.1, r2.dp h2.1, h1.2, h2.2, k _ H _ (fun _ _ e => e) (.bl _) q⟩
theorem d_neD : DOp K (rNeD K.K) oNe := fun B x y H d1 d2 Q Qv fr r1 r2 hq k => by
  obtain ⟨⟨h1, h2⟩, q⟩ := hq
  unfold D.eqOk at h1 h2
  rw [Bool.and_eq_true] at h1 h2
  exact ⟨_, _, r1.dp h1.1, r2.dp h2.1, h1.2, h2.2, k _ H _ (fun _ _ e => e) (.bl _) q⟩

/-! ### a list or a tuple walked -/
def iSeq (K : PySem.W.Frag) (tl : TE) : TI := fun σ H R => tl σ H fun x H1 => (∃ a, x = .ref a ∧ (∃ xs, SqL K H1 a xs) ∧ R (Itl K a) H1) ∨ (∃ a, x = .ref a ∧ (∃ xs, SqT K H1 a xs) ∧ R (Itt K a) H1)
open PyProof.Rows in
theorem pi_seq {X : Cx} {tg l : Expr} {tl : TE} (hl : PE X l tl) : PI X tg l (iSeq X.K tl) := by
  refine ⟨fun pins s σ H R I h => ?_⟩
  refine wpAny_mono (hl.run pins s σ H _ I h) (fun u s1 ⟨x, H1, I1, r1, q⟩ => ?_) fun _ _ e => e
  have new : ∀ b ∈ [s1.heap.objs.size], FpOk X pins H1 b := fun b hb => by
    obtain rfl : b = s1.heap.objs.size := by simpa using hb
    exact I1.fpOk (Nat.le_refl _) (I1.hok.fresh (Nat.le_refl _))
  rcases q with ⟨a, e, ⟨xs, hq⟩, q⟩ | ⟨a, e, ⟨xs, hq⟩, q⟩
  · subst e
    cases r1
    obtain ⟨its, rv, p, hz⟩ := I1.list hq
    refine wpAny_pyIter_list p.isList ?_
    exact ⟨_, [s1.heap.objs.size], _, _, H1, rfl, I1.kept (t' := s1.toks) (fun b o e => Heap.get?_push_of_some _ e), turn_list a _, ⟨_, Heap.get?_push_size _ rfl, rfl, rfl⟩, new, q⟩
  · subst e
    cases r1
    obtain ⟨its, rv, p, hz⟩ := I1.tuple hq
    refine wpAny_pyIter_tuple (show s1.heap.IsTuple a its.toArray from p) ?_
    exact ⟨_, [s1.heap.objs.size], _, _, H1, rfl, I1.kept (t' := s1.toks) (fun b o e => Heap.get?_push_of_some _ e), turn_tuple a _, ⟨_, Heap.get?_push_size _ rfl, rfl, rfl⟩, new, q⟩
def dS (Q : List D → Prop) : D → Prop
  | .lst ds => Q ds
  | .tup ds => Q ds
  | _ => False
def riS (re : RE) : RI := fun ρ Q => re ρ (dS Q)
theorem ir_seq {te : TE} {re : RE} (h : DEr K true te re) : DIr K true (iSeq K.K te) (riS re) := fun Φ own ρ σ H Q Qv R hr hq => h Φ own ρ σ H _ _ R hr fun v H' d R' g rp q => by
  cases d with
  | lst ds =>
    obtain ⟨a, vs, rfl, ba, rd, hz, rs⟩ := rp.sqL
    exact .inl ⟨a, rfl, ⟨vs, .inl (.inl rd)⟩, hq _ H' ds R' g (itok_seq (G := fun H => SqL K.K H a vs) hz (by rw [← rs.length]; exact walk_list) (fun H2 k => Or.inl (Or.inl (k _ _ ba rd))) rs (.inl fun _ h => h)) q⟩
  | tup ds =>
    obtain ⟨a, vs, rfl, sq, hz, rs⟩ := Reps.sqT rp
    exact .inr ⟨a, rfl, ⟨vs, sq H' fun _ _ _ e => e⟩, hq _ H' ds R' g (itok_seq hz (by rw [← rs.length]; exact walk_tup) sq rs (.inl fun _ h => h)) q⟩
  | _ => exact q.elim
theorem ir_seqB {te : TE} {re : RE} (h : DEr K false te re) : DIr K false (iSeq K.K te) (rImmL (riS re)) := fun Φ own ρ σ H Q Qv R hr hq => h Φ own ρ σ H _ _ R hr fun v H' d R' g rp q => by
  cases d with
  | lst ds =>
    obtain ⟨a, vs, rfl, ba, rd, hz, rs⟩ := rp.sqL
    exact .inl ⟨a, rfl, ⟨vs, .inl (.inl rd)⟩, hq _ H' ds R' g (itok_seq (G := fun H => SqL K.K H a vs) hz (by rw [← rs.length]; exact walk_list) (fun H2 k => Or.inl (Or.inl (k _ _ ba rd))) rs (.inr q.1)) q.2⟩
  | tup ds =>
    obtain ⟨a, vs, rfl, sq, hz, rs⟩ := Reps.sqT rp
    exact .inr ⟨a, rfl, ⟨vs, sq H' fun _ _ _ e => e⟩, hq _ H' ds R' g (itok_seq hz (by rw [← rs.length]; exact walk_tup) sq rs (.inr q.1)) q.2⟩
  | _ => exact q.elim
theorem i_seq {X : Cx} {tg e : Expr} {te : TE} {re : RE} (h : DE X true e te re) : DI X true tg e (iSeq X.K te) (riS re) := ⟨pi_seq h.pe, ir_seq h.rd⟩
theorem i_seqB {X : Cx} {tg e : Expr} {te : TE} {re : RE} (h : DE X false e te re) : DI X false tg e (iSeq X.K te) (rImmL (riS re)) := ⟨pi_seq h.pe, ir_seqB h.rd⟩
end
end DL
end
section
set_option maxRecDepth 100000
/-! DDict: dicts whose keys are tuples (of ints, texts, None, tuples), at the hand layer and over data. -/
namespace DL
open PySem PySem.Spec PyProof.Rows L2

abbrev NL := List (NestedKey × Addr × V)
def atN {α : Type} (l : List (NestedKey × α)) (k : NestedKey) : Option α := (l.find? fun x => decide (x.1 = k)).map (·.2)
def putN {α : Type} (l : List (NestedKey × α)) (k : NestedKey) (d : α) : List (NestedKey × α) := if (atN l k).isSome then l.map (fun x => if x.1 = k then (x.1, d) else x) else l ++ [(k, d)]
def putL (L : NL) (k : NestedKey) (q : Addr) (v : V) : NL := if (atN L k).isSome then L.map (fun x => if x.1 = k then (x.1, x.2.1, v) else x) else L ++ [(k, q, v)]
abbrev PX : (NestedKey × Addr × V) → (NestedKey × Addr × Value) → Prop := fun q x => q.1 = x.1 ∧ q.2.1 = x.2.1 ∧ RelV q.2.2 x.2.2

theorem atN_cons {α : Type} {k' k : NestedKey} {d : α} {r : List (NestedKey × α)} : atN ((k', d) :: r) k = if k' = k then some d else atN r k := by
  unfold atN
  rw [List.find?_cons]
  by_cases e : k' = k
  · simp [e]
  · simp [e]
theorem atN_none {α : Type} {l : List (NestedKey × α)} {k : NestedKey} : atN l k = none ↔ k ∉ l.map (·.1) := by
  induction l with
  | nil => simp [atN]
  | cons p r ih =>
    obtain ⟨k', d⟩ := p
    rw [atN_cons]
    by_cases e : k' = k
    · simp [e]
    · rw [if_neg e, ih, List.map_cons, List.mem_cons, not_or]
      exact ⟨fun h => ⟨fun z => e z.symm, h⟩, fun h => h.2⟩
theorem putN_nodup {α : Type} {l : List (NestedKey × α)} {k : NestedKey} {d : α} (h : (l.map (·.1)).Nodup) : ((putN l k d).map (·.1)).Nodup := by
  unfold putN
  by_cases e : (atN l k).isSome = true
  · rw [if_pos e, List.map_map]
    have : ((fun x : NestedKey × α => x.1) ∘ fun x => if x.1 = k then (x.1, d) else x) = fun x => x.1 := by
      funext x; simp only [Function.comp]; split <;> rfl
    rw [this]; exact h
  · rw [if_neg e, List.map_append, List.map_singleton]
    have hn : atN l k = none := by simpa using e
    rw [List.nodup_append]
    refine ⟨h, by simp, fun a ha b hb => ?_⟩
    have eb : b = k := by simpa using hb
    rw [eb]
    exact fun z => atN_none.mp hn (by rw [← z]; exact ha)

section
variable {K : Ct} {B : Addr → Prop} {H : Hp}
theorem RepN.length : ∀ {L : NL} {kds : List (NestedKey × D)}, RepN K B H L kds → L.length = kds.length
  | _, _, .nil => rfl
  | _, _, .cons _ _ _ t => by rw [List.length_cons, List.length_cons, RepN.length t]
theorem RepN.keys : ∀ {L : NL} {kds : List (NestedKey × D)}, RepN K B H L kds → L.map (·.1) = kds.map (·.1)
  | _, _, .nil => rfl
  | _, _, .cons _ _ _ t => by rw [List.map_cons, List.map_cons, RepN.keys t]
theorem RepN.at : ∀ {L : NL} {kds : List (NestedKey × D)} {k : NestedKey}, RepN K B H L kds → (atN L k = none ∧ atN kds k = none) ∨ ∃ q v d, atN L k = some (q, v) ∧ atN kds k = some d ∧ Rep K B H v d
  | _, _, k, .nil => .inl ⟨rfl, rfl⟩
  | _, _, k, .cons (k := k') (q := q) (v := v) (d := d) r l r2 t => by
    rw [atN_cons, atN_cons]
    by_cases e : k' = k
    · rw [if_pos e, if_pos e]; exact .inr ⟨q, v, d, rfl, rfl, r2⟩
    · rw [if_neg e, if_neg e]; exact RepN.at t
theorem RepN.same {L : NL} {kds : List (NestedKey × D)} {k : NestedKey} (h : RepN K B H L kds) : (atN L k).isSome = (atN kds k).isSome := by
  rcases h.at (k := k) with ⟨e1, e2⟩ | ⟨q, v, d, e1, e2, _⟩ <;> rw [e1, e2] <;> rfl
theorem RepN.app {L M : NL} {kds mds : List (NestedKey × D)} : RepN K B H L kds → RepN K B H M mds → RepN K B H (L ++ M) (kds ++ mds)
  | .nil, m => m
  | .cons a b c t, m => .cons a b c (RepN.app t m)
theorem RepN.over {k : NestedKey} {v : V} {d : D} (rv : Rep K B H v d) : ∀ {L : NL} {kds : List (NestedKey × D)}, RepN K B H L kds → RepN K B H (L.map fun x => if x.1 = k then (x.1, x.2.1, v) else x) (kds.map fun x => if x.1 = k then (x.1, d) else x)
  | _, _, .nil => .nil
  | _, _, .cons (k := k') a b c t => by
    rw [List.map_cons, List.map_cons]
    by_cases e : k' = k
    · rw [if_pos e, if_pos e]; exact .cons a b rv (RepN.over rv t)
    · rw [if_neg e, if_neg e]; exact .cons a b c (RepN.over rv t)
theorem RepN.put {L : NL} {kds : List (NestedKey × D)} {k : NestedKey} {q : Addr} {v : V} {d : D} (h : RepN K B H L kds) (rq : Rep K B H (.ref q) (keyD k)) (hl : k.depth ≤ 8) (rv : Rep K B H v d) : RepN K B H (putL L k q v) (putN kds k d) := by
  unfold putL putN
  rw [h.same]
  by_cases e : (atN kds k).isSome = true
  · rw [if_pos e, if_pos e]; exact RepN.over rv h
  · rw [if_neg e, if_neg e]; exact h.app (.cons rq hl rv .nil)
theorem putL_len {L : NL} {k : NestedKey} {q : Addr} {v : V} : (putL L k q v).length ≤ L.length + 1 := by
  unfold putL
  split <;> simp
/-- the key of the tuple at q -/
def KeyIn (K : Ct) (H : Hp) (q : Addr) (k : NestedKey) : Prop := k.depth ≤ 8 ∧ ∃ B, Rep K B H (.ref q) (keyD k)
theorem RepN.keyIn : ∀ {L : NL} {kds : List (NestedKey × D)}, RepN K B H L kds → ∀ x ∈ L, KeyIn K H x.2.1 x.1
  | _, _, .nil, _, h => by simp at h
  | _, _, .cons a b c t, x, h => by
    rcases List.mem_cons.mp h with rfl | h
    · exact ⟨b, B, a⟩
    · exact RepN.keyIn t x h
end

section
variable {X : Cx} {pins : List (Addr × Obj)} {σ : L2.St} {H : Hp} {s : Shared} {B : Addr → Prop}
mutual
theorem nested_of (I : Inv X pins σ H s) : ∀ (k : NestedKey) (v : V) (u : Value), Rep X.ct B H v (keyD k) → RelV v u → NestedIs s.heap k u
  | .none, v, u, r, ru => by
    rw [keyD] at r
    rw [r.isNon] at ru; cases ru; exact .none
  | .num i, v, u, r, ru => by
    rw [keyD] at r
    rw [r.isInt] at ru; obtain ⟨t, rfl⟩ := ru; exact .int i t
  | .text x, v, u, r, ru => by
    rw [keyD] at r
    rw [r.isStr] at ru; obtain ⟨t, rfl⟩ := ru; exact .text x t
  | .tup ks, v, u, r, ru => by
    rw [keyD] at r
    obtain ⟨a, vs, rfl, sq, _, rs⟩ := r.sqT
    cases ru
    obtain ⟨its, rv, ⟨o, ho, hc, n, hd⟩, _⟩ := I.tuple sq
    exact .tup ho hc hd (by simpa using nested_all I ks vs its rs rv)
theorem nested_all (I : Inv X pins σ H s) : ∀ (ks : List NestedKey) (vs : List V) (us : List Value), Reps X.ct B H vs (keysD ks) → Vals vs us → NestedAll s.heap ks us
  | [], vs, us, r, ru => by
    rw [keysD] at r
    cases r; cases ru; exact .nil
  | k :: ks, vs, us, r, ru => by
    rw [keysD] at r
    cases r with
    | cons r1 r2 => cases ru with | cons u1 u2 => exact .cons (nested_of I k _ _ r1 u1) (nested_all I ks _ _ r2 u2)
end
theorem key_of (I : Inv X pins σ H s) {q : Addr} {k : NestedKey} (h : KeyIn X.ct H q k) : (nestedKind X.prog X.w).is s.heap k q :=
  let ⟨l, _, r⟩ := h
  ⟨nested_of I k _ _ r rfl, l⟩
theorem PX.at {L : NL} {xs : List (NestedKey × Addr × Value)} (h : Paired PX L xs) {k : NestedKey} : (atN L k = none ∧ atKey xs k = none) ∨ ∃ q v u, atN L k = some (q, v) ∧ atKey xs k = some (q, u) ∧ RelV v u := by
  induction h with
  | nil => exact .inl ⟨rfl, rfl⟩
  | cons r t ih =>
    rename_i a b l m
    obtain ⟨k1, q1, v1⟩ := a
    obtain ⟨k2, q2, u2⟩ := b
    obtain ⟨e1, e2, e3⟩ := r
    simp only at e1 e2 e3
    subst e1 e2
    have e4 : atKey ((k1, q1, u2) :: m) k = if k1 = k then some (q1, u2) else atKey m k := atN_cons
    rw [atN_cons, e4]
    by_cases e : k1 = k
    · rw [if_pos e, if_pos e]; exact .inr ⟨q1, v1, u2, rfl, rfl, e3⟩
    · rw [if_neg e, if_neg e]; exact ih
theorem PX.app {L M : NL} {xs ys : List (NestedKey × Addr × Value)} (h : Paired PX L xs) (g : Paired PX M ys) : Paired PX (L ++ M) (xs ++ ys) := by
  induction h with
  | nil => exact g
  | cons r t ih => exact .cons r ih
theorem PX.put {L : NL} {xs : List (NestedKey × Addr × Value)} (h : Paired PX L xs) {k : NestedKey} {q : Addr} {v : V} {u : Value} (r : RelV v u) : Paired PX (putL L k q v) (storedH xs k q u) := by
  unfold putL storedH
  have e : (atN L k).isSome = (atKey xs k).isSome := by
    rcases PX.at h (k := k) with ⟨e1, e2⟩ | ⟨_, _, _, e1, e2, _⟩ <;> rw [e1, e2] <;> rfl
  rw [e]
  by_cases hs : (atKey xs k).isSome = true
  · rw [if_pos hs, if_pos hs]
    clear e hs
    induction h with
    | nil => exact .nil
    | cons p t ih =>
      rename_i a b l m
      rw [List.map_cons, List.map_cons]
      refine .cons ?_ ih
      obtain ⟨k1, q1, v1⟩ := a
      obtain ⟨k2, q2, u2⟩ := b
      obtain ⟨e1, e2, e3⟩ := p
      simp only at e1 e2 e3
      subst e1 e2
      unfold putAt
      by_cases e : k1 = k
      · simp only [e, if_true]; exact ⟨rfl, rfl, r⟩
      · simp only [e, if_false]; exact ⟨rfl, rfl, e3⟩
  · rw [if_neg hs, if_neg hs]
    exact PX.app h (.cons ⟨rfl, rfl, r⟩ .nil)
/-- a dict of this sort, as the library tells it -/
theorem dN_at (I : Inv X pins σ H s) {a : Addr} {ep : Nat} {L : NL} (h : H a = some (.ext (dPhi X.w a ep L))) (hk : ∀ x ∈ L, KeyIn X.ct H x.2.1 x.1) (hn : (L.map (·.1)).Nodup) :
    (a == sysModules) = false ∧ L.length ≤ sizeLine ∧ ∃ (xs : List (NestedKey × Addr × Value)) (es : Array DictEntry), s.heap.DictOfH (nestedKind X.prog X.w) a xs ∧ s.heap.DictRaw a es ep ∧ es.toList = xs.map (fun x => (⟨x.1.hash X.w, .ref x.2.1, x.2.2⟩ : DictEntry)) ∧ Paired PX L xs := by
  obtain ⟨⟨hs, hz, o, es, xs, ho, hx, hd, he, hp⟩, _, _⟩ := I.hok a _ h
  have keys : ∀ {L : NL} {xs : List (NestedKey × Addr × Value)}, Paired PX L xs → xs.map (·.1) = L.map (·.1) := fun {L xs} h => by
    induction h with
    | nil => rfl
    | cons r t ih => rw [List.map_cons, List.map_cons, ih, r.1]
  have mem : ∀ {L : NL} {xs : List (NestedKey × Addr × Value)}, Paired PX L xs → ∀ x ∈ xs, ∃ y ∈ L, PX y x := fun {L xs} h => by
    induction h with
    | nil => intro x hx; simp at hx
    | cons r t ih =>
      intro x hx
      rcases List.mem_cons.mp hx with rfl | hx
      · exact ⟨_, List.mem_cons_self, r⟩
      · obtain ⟨y, hy, p⟩ := ih x hx
        exact ⟨y, List.mem_cons_of_mem _ hy, p⟩
  refine ⟨hs, hz, xs, es, ⟨o, es, ep, ho, hx, hd, he, fun x hx => ?_, by rw [keys hp]; exact hn⟩, ⟨o, ho, hx, hd⟩, he, hp⟩
  obtain ⟨y, hy, e1, e2, _⟩ := mem hp x hx
  rw [← e1, ← e2]
  exact key_of I (hk y hy)
theorem dN_write (I : Inv X pins σ H s) {a : Addr} {ep : Nat} {L L' : NL} {h' : Heap} {t : Nat} {xs' : List (NestedKey × Addr × Value)} (h : H a = some (.ext (dPhi X.w a ep L))) (hs : (a == sysModules) = false) (hz : L'.length ≤ sizeLine) (hm : h'.DictOfH (nestedKind X.prog X.w) a xs') (hb : Heap.SameBut a s.heap h') (hp : Paired PX L' xs') :
    ∃ ep', Inv X pins σ (upd H a (.ext (dPhi X.w a ep' L'))) { s with heap := h', toks := t } := by
  obtain ⟨o, es, ep', ho, hx, hd, he, _, _⟩ := hm
  refine ⟨ep', I.write (x := a) (e := a) (by rw [h]; trivial) (.inl rfl) (fun b u hne q => (hb.2 b hne).trans q) ⟨o, ho⟩ ⟨⟨hs, hz, o, es, xs', ho, hx, hd, he, hp⟩, ⟨o, ho⟩, fun h1 h2 q1 q2 => ?_⟩⟩
  obtain ⟨k1, k2, o1, es1, xs1, r1, r2⟩ := q1
  exact ⟨k1, k2, o1, es1, xs1, q2 _ r1, r2⟩

/-! ### {} -/
theorem pe_dnewN {pos : Pos} : PE X (.Dict [] [] pos) (fun _ H Q => ∀ p, H p = none → Q (.ref p) (upd H p (.ext (dPhi X.w p 0 [])))) := ⟨fun pins s σ H Q I h => by
  have hsz : (s.heap.objs.size == sysModules) = false := beq_eq_false_iff_ne.mpr (Ne.symm (Nat.ne_of_lt I.big))
  refine wpAny_Dict_empty ⟨.ref s.heap.objs.size, _, I.laid (a := s.heap.objs.size) (o := .ext (dPhi X.w s.heap.objs.size 0 [])) (t' := s.toks) (fun _ _ q => Heap.get?_push_of_some _ q) (Nat.le_refl _) ⟨⟨hsz, Nat.zero_le _, _, #[], [], Heap.get?_push_size _ rfl, ⟨rfl, rfl, rfl⟩, rfl, rfl, .nil⟩, ⟨_, Heap.get?_push_size _ rfl⟩, fun h1 h2 q1 q2 => ?_⟩, rfl, h _ (I.hok.fresh (Nat.le_refl _))⟩
  obtain ⟨k1, k2, o1, es1, xs1, r1, r2⟩ := q1
  exact ⟨k1, k2, o1, es1, xs1, q2 _ r1, r2⟩⟩
/-! ### d[k] = v, d[k], k in d, d.get(k, x) -/
def DNat (K : Ct) (H : Hp) (a : Addr) (ep : Nat) (L : NL) : Prop := H a = some (.ext (dPhi K.w a ep L)) ∧ (∀ x ∈ L, KeyIn K H x.2.1 x.1) ∧ (L.map (·.1)).Nodup
def rPutN (K : Ct) : TSet := fun o i v H Q => ∃ a ep L k q, o = .ref a ∧ i = .ref q ∧ DNat K H a ep L ∧ KeyIn K H q k ∧ L.length < sizeLine ∧ ∀ ep', Q (upd H a (.ext (dPhi K.w a ep' (putL L k q v))))
theorem set_dN (hu : X.A.units + 64 < cLine) : PSet X (rPutN X.ct) := by
  intro pins s σ H o i v ov iv u Q I ro ri rv h
  obtain ⟨a, ep, L, k, q, rfl, rfl, ⟨ha, hk, hn⟩, hq, hz, hQ⟩ := h
  cases ro
  cases ri
  obtain ⟨hs, _, xs, es, hm, _, _, hp⟩ := dN_at I ha hk hn
  have hl : xs.length = L.length := (Paired.length hp).symm
  refine wpAny_setItem_heap (knd := nestedKind X.prog X.w) (hsz := by omega) (by show X.A.in1.units + 8 < cLine; show X.A.units + 1 + 8 < cLine; omega) (key_of I hq) hm fun h' hm' hb => ?_
  obtain ⟨ep', I'⟩ := dN_write (t := s.toks + (nestedKind X.prog X.w).draws k) I ha hs (L' := putL L k q v) (Nat.le_trans putL_len hz) hm' hb (PX.put hp rv)
  exact ⟨_, I', hQ ep'⟩
def rIxN (K : Ct) : R2 := fun x y H Q => ∃ a ep L k q q' v, x = .ref a ∧ y = .ref q ∧ DNat K H a ep L ∧ KeyIn K H q k ∧ atN L k = some (q', v) ∧ Q v H
theorem ix_dN (hu : X.A.units + 64 < cLine) : IxR X (rIxN X.ct) := by
  intro value slice pins s σ H x y v u Q I rx ry h hs
  obtain ⟨a, ep, L, k, q, q', w', rfl, rfl, ⟨ha, hk, hn⟩, hq, hat, hQ⟩ := h
  cases rx
  cases ry
  obtain ⟨_, _, xs, es, hm, _, _, hp⟩ := dN_at I ha hk hn
  rcases PX.at hp (k := k) with ⟨e1, _⟩ | ⟨q2, v2, u2, e1, e2, r2⟩
  · rw [e1] at hat; cases hat
  · rw [e1] at hat; cases hat
    exact subscriptTail_builtinR (x := u2) hm.typeIs slot_dict_getitem.lookup
      (wpAny_getItem_heap (knd := nestedKind X.prog X.w) (Q := fun r s' => r = u2 ∧ EP X pins σ Q r s') (by show X.A.units + 1 + 8 < cLine; omega) (key_of I hq) hm e2 ⟨rfl, w', H, I.tok _, r2, hQ⟩) hs
end
end DL
end
section
set_option maxRecDepth 100000
/-! DSort: sorted, of lists, of dicts with tuple keys, of their items. -/
namespace DL
open PySem PySem.Spec PyProof.Rows L2

def depthOk (ds : List D) : Prop := ∀ d ∈ ds, d.pd.depth ≤ 60
def sortOk (ds : List D) : Prop := D.immL ds = true ∧ PySem.W.AllAlike (ds.map D.pd) ∧ PySem.W.Sortable (ds.map D.pd) ∧ ds.length ≤ sizeLine ∧ depthOk ds
def sortD (ds : List D) : List D := ds.mergeSort (PySem.W.dataLe false D.pd)

section
variable {X : Cx} {pins : List (Addr × Obj)} {σ : L2.St} {H : Hp} {s : Shared} {B : Addr → Prop}
mutual
theorem reads_of (I : Inv X pins σ H s) : ∀ (d : D) (v : V) (u : Value), d.imm = true → Rep X.ct B H v d → RelV v u → Reads s.heap u d.pd []
  | .non, v, u, _, r, ru => by rw [r.isNon] at ru; cases ru; simp only [D.pd]; exact .none
  | .bl b, v, u, _, r, ru => by cases r; cases ru; simp only [D.pd]; exact .bool b
  | .int i, v, u, _, r, ru => by rw [r.isInt] at ru; obtain ⟨t, rfl⟩ := ru; simp only [D.pd]; exact .int i t
  | .str x, v, u, _, r, ru => by rw [r.isStr] at ru; obtain ⟨t, rfl⟩ := ru; simp only [D.pd]; exact .str x t
  | .tup ds, v, u, hi, r, ru => by
    obtain ⟨a, vs, rfl, sq, _, rs⟩ := r.sqT
    cases ru
    obtain ⟨its, rv, ⟨o, ho, hc, n, hd⟩, _⟩ := I.tuple sq
    simp only [D.pd]
    exact .tuple ho hc hd (by simpa using reads_all I ds vs its (by simpa [D.imm] using hi) rs rv)
  | .lst _, _, _, hi, _, _ => by simp [D.imm] at hi
  | .dK _, _, _, hi, _, _ => by simp [D.imm] at hi
  | .dN _, _, _, hi, _, _ => by simp [D.imm] at hi
theorem reads_all (I : Inv X pins σ H s) : ∀ (ds : List D) (vs : List V) (us : List Value), D.immL ds = true → Reps X.ct B H vs ds → Vals vs us → ReadsAll s.heap us (D.pds ds) []
  | [], vs, us, _, r, ru => by cases r; cases ru; simp only [D.pds]; exact .nil
  | d :: ds, vs, us, hi, r, ru => by
    simp only [D.immL, Bool.and_eq_true] at hi
    cases r with
    | cons r1 r2 => cases ru with | cons u1 u2 => simp only [D.pds]; exact .cons (as := []) (bs := []) (reads_of I d _ _ hi.1 r1 u1) (reads_all I ds _ _ hi.2 r2 u2)
end
theorem zip_snd : ∀ {vs : List V} {ds : List D}, Reps X.ct B H vs ds → (vs.zip ds).map (·.2) = ds
  | _, _, .nil => rfl
  | _, _, .cons r t => by rw [List.zip_cons_cons, List.map_cons, zip_snd t]
theorem zip_each (I : Inv X pins σ H s) : ∀ {vs : List V} {ds : List D} {us : List Value}, Reps X.ct B H vs ds → Vals vs us → D.immL ds = true →
    PySem.W.EachIs (fun (u : Value) (b : V × D) => RelV b.1 u) us (vs.zip ds) ∧ PySem.W.EachIs (fun (u : Value) (b : V × D) => Reads s.heap u b.2.pd []) us (vs.zip ds)
  | _, _, _, .nil, .nil, _ => ⟨.nil, .nil⟩
  | _, _, _, .cons r t, .cons u w, hi => by
    simp only [D.immL, Bool.and_eq_true] at hi
    obtain ⟨a, b⟩ := zip_each I t w hi.2
    exact ⟨.cons u a, .cons (reads_of I _ _ _ hi.1 r u) b⟩
theorem zip_mem : ∀ {vs : List V} {ds : List D}, Reps X.ct B H vs ds → ∀ p ∈ vs.zip ds, Rep X.ct B H p.1 p.2
  | _, _, .nil, p, h => by simp at h
  | _, _, .cons r t, p, h => by
    rw [List.zip_cons_cons] at h
    rcases List.mem_cons.mp h with rfl | h
    · exact r
    · exact zip_mem t p h
theorem reps_of : ∀ {l : List (V × D)}, (∀ p ∈ l, Rep X.ct B H p.1 p.2) → Reps X.ct B H (l.map (·.1)) (l.map (·.2))
  | [], _ => .nil
  | p :: l, h => .cons (h p List.mem_cons_self) (reps_of fun q hq => h q (List.mem_cons_of_mem _ hq))
theorem vals_of : ∀ {l : List (V × D)} {us : List Value}, PySem.W.EachIs (fun (u : Value) (b : V × D) => RelV b.1 u) us l → Vals (l.map (·.1)) us
  | _, _, .nil => .nil
  | _, _, .cons r t => .cons r (vals_of t)
/-- the new list of us, sorted in place -/
theorem sort_call {A : Around} {E : Value → Shared → Prop} {us : List Value} {vs : List V} {ds : List D} (I : Inv X pins σ H s) (hu : A.units + 62 < cLine) (rv : Vals vs us) (rp : Reps X.ct B H vs ds) (ok : sortOk ds) :
    wpAny (model X.prog X.w) A (call (.builtin "list.sort") [.ref s.heap.objs.size]) (fun _ s' => ∃ vs', Reps X.ct B H vs' (sortD ds) ∧ Inv X pins σ (upd H s.heap.objs.size (.lst vs')) s') E { s with heap := s.heap.push (seqObj "list" us.toArray 0) } := by
  obtain ⟨hi, hal, hk, hL, hd⟩ := ok
  have hz : (vs.zip ds).map (fun b => b.2.pd) = ds.map D.pd := by
    have := congrArg (List.map D.pd) (zip_snd rp)
    rwa [List.map_map] at this
  have hlen : (vs.zip ds).length = ds.length := by
    have := congrArg List.length (zip_snd rp)
    rwa [List.length_map] at this
  have I1 : Inv X pins σ H { s with heap := s.heap.push (seqObj "list" us.toArray 0) } := I.kept (t' := s.toks) fun b o e => Heap.get?_push_of_some _ e
  obtain ⟨e1, e2⟩ := zip_each I1 rp rv hi
  have hoL : (s.heap.push (seqObj "list" us.toArray 0)).get? s.heap.objs.size = some (seqObj "list" us.toArray 0) := Heap.get?_push_size _ rfl
  refine PySem.W.list_sort_data (s := { s with heap := s.heap.push (seqObj "list" us.toArray 0) }) (enc := fun b : V × D => b.2.pd) (bs := vs.zip ds) hoL e1 (e2.mono fun u b r => ⟨[], r, by simp⟩) (by rw [hz]; exact hal) (by rw [hz]; exact hk) (by rw [hlen]; exact hL) (fun b hb => ?_) fun out ho eo => ?_
  · have : b.2.pd.depth ≤ 60 := hd b.2 (by rw [← zip_snd rp]; exact List.mem_map.mpr ⟨b, hb, rfl⟩)
    omega
  · have hs : ((vs.zip ds).mergeSort (PySem.W.dataLe false fun b => b.2.pd)).map (·.2) = sortD ds := by
      unfold sortD
      have q := List.map_mergeSort (r := PySem.W.dataLe false fun b : V × D => b.2.pd) (s := PySem.W.dataLe false D.pd) (f := fun b : V × D => b.2) (l := vs.zip ds) (fun a _ b _ => rfl)
      rw [zip_snd rp] at q
      exact q
    refine ⟨((vs.zip ds).mergeSort (PySem.W.dataLe false fun b => b.2.pd)).map (·.1), ?_, ?_⟩
    · rw [← hs]
      exact reps_of fun p hp => zip_mem rp p ((List.mergeSort_perm _ _).mem_iff.mp hp)
    · obtain ⟨e', he'⟩ := PyProof.Rows.sortedHeap_at (vs := us) (out := out.toArray) hoL
      refine I.laid (t' := s.toks) (fun b u e => ?_) (Nat.le_refl _) ⟨?_, out, e', vals_of eo, he'⟩
      · have e3 : (s.heap.push (seqObj "list" us.toArray 0)).get? b = some u := Heap.get?_push_of_some _ e
        exact (PyProof.Rows.sortedHeap_old (Nat.ne_of_lt (Heap.lt_size e)) (Heap.lt_size e3)).trans e3
      · rw [List.length_map, List.length_mergeSort, hlen]; exact hL

/-- what sorted takes: a list; a dict with tuple keys -/
def rSrt (K : Ct) : List V → Hp → VK → Prop := fun xs H Q => ∃ (B : Addr → Prop) (a : Addr) (ds : List D) (vs : List V), xs = [.ref a] ∧
  (SqL K.K H a vs ∨ ∃ ep L, H a = some (.ext (dPhi K.w a ep L)) ∧ vs = L.map fun x => V.ref x.2.1) ∧ Reps K B H vs ds ∧ sortOk ds ∧ ∀ vs' p, Reps K B H vs' (sortD ds) → H p = none → Q (.ref p) (upd H p (.lst vs'))
theorem dN_raw (I : Inv X pins σ H s) {a : Addr} {ep : Nat} {L : NL} (h : H a = some (.ext (dPhi X.w a ep L))) :
    (a == sysModules) = false ∧ L.length ≤ sizeLine ∧ ∃ (o : Obj) (es : Array DictEntry), s.heap.get? a = some o ∧ o.ExactDict ∧ o.data = .dict es ep ∧ es.size = L.length ∧
      ∀ (i : Nat) (k : NestedKey) (q : Addr) (v : V), L[i]? = some (k, q, v) → ∃ en : DictEntry, es[i]? = some en ∧ en.key = .ref q ∧ RelV v en.val := by
  obtain ⟨⟨hs, hz, o, es, xs, ho, hx, hd, he, hp⟩, _, _⟩ := I.hok a _ h
  have hl : xs.length = L.length := (Paired.length hp).symm
  have hes : es.size = L.length := by rw [← Array.length_toList, he, List.length_map, hl]
  refine ⟨hs, hz, o, es, ho, hx, hd, hes, fun i k q v e => ?_⟩
  obtain ⟨⟨k2, q2, u2⟩, hb, e1, e2, e3⟩ := paired_get hp e
  refine ⟨⟨k2.hash X.w, .ref q2, u2⟩, ?_, ?_, e3⟩
  · rw [← Array.getElem?_toList, he, List.getElem?_map, hb]; rfl
  · exact congrArg Value.ref e2.symm
theorem keyVals {L : NL} {es : Array DictEntry} (hes : es.size = L.length) (hx : ∀ (i : Nat) (k : NestedKey) (q : Addr) (v : V), L[i]? = some (k, q, v) → ∃ en : DictEntry, es[i]? = some en ∧ en.key = .ref q ∧ RelV v en.val) {acc : List Value} (hl : acc.length = L.length)
    (hacc : ∀ (j : Nat) (v : Value), acc[j]? = some v → ∃ hi : j < es.size, v = es[j].key) : Vals (L.map fun x => V.ref x.2.1) acc := by
  have : acc = L.map fun x => Value.ref x.2.1 := by
    apply List.ext_getElem?
    intro j
    rw [List.getElem?_map]
    cases e : L[j]? with
    | none =>
      rw [List.getElem?_eq_none_iff] at e
      exact List.getElem?_eq_none (by omega)
    | some x =>
      obtain ⟨k, q, v⟩ := x
      have hj : j < L.length := by
        rcases Nat.lt_or_ge j L.length with h | h
        · exact h
        · rw [List.getElem?_eq_none h] at e; cases e
      obtain ⟨en, h1, h2, _⟩ := hx j k q v e
      have h3 : acc[j]? = some acc[j] := List.getElem?_eq_getElem (by omega)
      obtain ⟨hi, h4⟩ := hacc j _ h3
      rw [Array.getElem?_eq_getElem hi] at h1
      have h5 : es[j] = en := Option.some.inj h1
      rw [h3, h4, h5, h2]; rfl
  rw [this]
  clear this hl hx hes hacc
  induction L with
  | nil => exact .nil
  | cons x L ih => exact .cons rfl ih
theorem sort_fin {us : List Value} {vs : List V} {ds : List D} {Q : VK} {s' : Shared} {H' : Hp} (I : Inv X pins σ H' s') (hu : X.A.units + 70 < cLine) (rv : Vals vs us) (rp : Reps X.ct B H' vs ds) (ok : sortOk ds)
    (q : ∀ vs' p, Reps X.ct B H' vs' (sortD ds) → H' p = none → Q (.ref p) (upd H' p (.lst vs'))) :
    wpAny (model X.prog X.w) X.A.in1 (newList us >>= fun l => holding [l] (call (.builtin "list.sort") [l] []) >>= fun _ => ret l) (fun f s' => ∃ v, f = .done (.ret v) ∧ EP X pins σ Q v s') X.xe s' := by
  have hlen : us.length ≤ sizeLine := by rw [← rv.length, rp.length]; exact ok.2.2.2.1
  refine wpAny_bind (wpAny_newList ?_ hlen)
  refine wpAny_bind (wpAny_holding (wpAny_mono (sort_call I (by show X.A.units + 1 + 62 < cLine; omega) rv rp ok) (fun _ s2 x => ?_) fun _ _ e => e))
  obtain ⟨vs', r', I'⟩ := x
  exact wpAny_pure ⟨_, rfl, .ref s'.heap.objs.size, _, I', rfl, q vs' _ r' (I.hok.fresh (Nat.le_refl _))⟩
theorem cr_srt (hc : X.calm = true) (hu : X.A.units + 70 < cLine) : CallR X (.builtin "sorted") (rSrt X.ct) := by
  intro pins s σ H xs us Q I r h
  obtain ⟨B, a, ds, vs, rfl, hv, rp, ok, q⟩ := h
  rw [Vals.ref1 r]
  refine Calls.call_function_entry kind_sorted plain_sorted entry_sorted (args_sorted1 _) ?_
  unfold Builtin.«sorted»
  refine wpAny_bind (m := checkCount "sorted" 1 1 _) (wpAny_pure ?_)
  have hlen : vs.length ≤ sizeLine := by rw [rp.length]; exact ok.2.2.2.1
  rcases hv with hv | ⟨ep, L, hv, e⟩
  · obtain ⟨its, rv, hl, hz⟩ := I.list hv
    refine wpAny_bind (collect_list hl.isList ?_ (by rw [← rv.length]; exact hz))
    refine sort_fin (I.kept (t' := s.toks) fun b o q => ?_) hu rv rp ok q
    have hlt : b < s.heap.objs.size := Heap.lt_size q
    rw [Heap.get?_update_ne _ _ _ _ (Nat.ne_of_lt hlt)]
    exact Heap.get?_push_of_some _ q
  · subst e
    obtain ⟨lo, hz, o, es, ho, hx, hdt, hes, ent⟩ := dN_raw I hv
    refine wpAny_bind (PySem.W.kdu_collect (A := X.A.in1) (KdlSrc.rawDict (es := es) (ep := ep) lo) (I.ok.hd hc) ⟨o, ho, hx, hdt⟩ (by omega) fun h' tk acc hk hacc => ?_)
    refine sort_fin (I.kept (t' := tk) hk) hu (keyVals hes ent (by rw [Array.length_toList, hacc.1, hes]) fun j v e => hacc.2 j v (by rw [← Array.getElem?_toList]; exact e)) rp ok q

/-! ### sorted(d.items()) -/
/-- the view d.items() -/
def rItemsN (w : World) : V → List V → Hp → VK → Prop := fun x xs H Q => ∃ a ep L, x = .ref a ∧ xs = [] ∧ H a = some (.ext (dPhi w a ep L)) ∧ ∀ p, H p = none → Q (.ref p) (upd H p (L2.DX.itemsO p a))
theorem mt_itemsN : MtR X "dict.items" (rItemsN X.w) := by
  intro pins s σ H x xs v us Q I rx rxs h
  obtain ⟨a, ep, L, rfl, rfl, ha, q⟩ := h
  cases rx
  cases rxs
  obtain ⟨lo, hz, o, es, ho, hx, hdt, hes, ent⟩ := dN_raw I ha
  refine DT.callItems (es := es) (ep := ep) lo ⟨o, ho, hx, hdt⟩ ?_
  exact ⟨.ref s.heap.objs.size, upd H s.heap.objs.size (L2.DX.itemsO s.heap.objs.size a), I.laid (t' := s.toks) (fun b u e => Heap.get?_push_of_some _ e) (Nat.le_refl _) (L2.DX.itemsO_ok (Heap.get?_push_size _ rfl)), rfl, q _ (I.hok.fresh (Nat.le_refl _))⟩
/-- the items as data -/
def itemsD (kds : List (NestedKey × D)) : List D := kds.map fun x => .tup [keyD x.1, x.2]
def rSrtIt (K : Ct) : List V → Hp → VK → Prop := fun xs H Q => ∃ (B : Addr → Prop) (p a : Addr) (ep : Nat) (L : NL) (kds : List (NestedKey × D)), xs = [.ref p] ∧ H p = some (L2.DX.itemsO p a) ∧ H a = some (.ext (dPhi K.w a ep L)) ∧
  (∀ p, H p = none → B p) ∧ RepN K B H L kds ∧ sortOk (itemsD kds) ∧ ∀ vs' l H', Same H H' → Reps K B H' vs' (sortD (itemsD kds)) → H' l = none → Q (.ref l) (upd H' l (.lst vs'))
theorem items_reps {K : Ct} {H H2 : Hp} {B : Addr → Prop} (hk : Same H H2) : ∀ {L : NL} {kds : List (NestedKey × D)} {as : List Addr}, RepN K B H L kds → as.length = L.length →
    (∀ (j : Nat) (a : Addr), as[j]? = some a → B a ∧ ∀ k q v, L[j]? = some (k, q, v) → H2 a = some (.tup [.ref q, v])) → Reps K B H2 (as.map V.ref) (itemsD kds)
  | _, _, [], .nil, _, _ => .nil
  | _, _, _ :: _, .nil, h, _ => by simp at h
  | _, _, [], .cons _ _ _ _, h, _ => by simp at h
  | _, _, a :: as, .cons (k := k) (q := q) (v := v) r1 l r2 t, h, ha => by
    refine .cons ?_ (items_reps hk t (by simpa using h) fun j b e => ?_)
    · obtain ⟨b, x⟩ := ha 0 a rfl
      exact .tup b (.inl (x k q v rfl)) (by show 2 ≤ sizeLine; decide) (.cons (r1.mono (same_keeps hk)) (.cons (r2.mono (same_keeps hk)) .nil))
    · obtain ⟨b, x⟩ := ha (j + 1) b (by simpa using e)
      exact ⟨b, fun k q v e => x k q v (by simpa using e)⟩
theorem cr_srtIt (hc : X.calm = true) (hu : X.A.units + 70 < cLine) : CallR X (.builtin "sorted") (rSrtIt X.ct) := by
  intro pins s σ H xs us Q I r h
  obtain ⟨B, p, a, ep, L, kds, rfl, hp, ha, hB, rp, ok, q⟩ := h
  rw [Vals.ref1 r]
  have view : s.heap.IsItemsView p a := (show ObjOk X.prog X.w H s.heap p (L2.DX.itemsO p a) from I.hok p _ hp).1
  obtain ⟨lo, hz, o, es, ho, hx, hdt, hes, ent⟩ := dN_raw I ha
  have hd : s.heap.DictRaw a es ep := ⟨o, ho, hx, hdt⟩
  refine Calls.call_function_entry kind_sorted plain_sorted entry_sorted (args_sorted1 _) ?_
  unfold Builtin.«sorted»
  refine wpAny_bind (m := checkCount "sorted" 1 1 _) (wpAny_pure ?_)
  refine wpAny_bind (PySem.W.dil_collect (A := X.A.in1) (es := es) (ep := ep) (I.ok.hd hc) view hd (by omega) fun h' tk as hk hl hG => ?_)
  have nd : as.Nodup := List.Pairwise.imp (fun h => Nat.ne_of_lt h) hG.rise
  have I1 : Inv X pins σ H { s with heap := h', toks := tk } := I.kept hk
  have hlL : as.length = L.length := by rw [hl, hes]
  obtain ⟨H2, I2, g, qt⟩ := L2.DX.takeT (P := fun b vs => ∃ (j : Nat) (k : NestedKey) (q : Addr) (v : V), as[j]? = some b ∧ L[j]? = some (k, q, v) ∧ vs = [.ref q, v]) I as H I1 nd fun b hb => by
    obtain ⟨j, hj⟩ := List.mem_iff_getElem?.mp hb
    obtain ⟨hi, ho⟩ := hG.pairs j b hj
    obtain ⟨⟨k, q, v⟩, e⟩ : ∃ x, L[j]? = some x := ⟨_, List.getElem?_eq_getElem (by omega)⟩
    obtain ⟨en, e1, e2, e3⟩ := ent j k q v e
    rw [Array.getElem?_eq_getElem hi] at e1
    have e4 : es[j] = en := Option.some.inj e1
    rw [e4] at ho
    have hge : s.heap.objs.size ≤ b := Nat.le_of_lt (hG.above b hb)
    exact ⟨hge, I.hok.fresh hge, _, ⟨j, k, q, v, hj, e, rfl⟩, fun H2 => ⟨by show 2 ≤ sizeLine; decide, [en.key, en.val], .cons (by rw [e2]; rfl) (.cons e3 .nil), ⟨_, ho, rfl, _, rfl⟩⟩⟩
  have reps : Reps X.ct B H2 (as.map V.ref) (itemsD kds) := items_reps g rp hlL fun j b e => by
    obtain ⟨vs, ⟨j2, k, q, v, e1, e2, e3⟩, e4⟩ := qt b (List.mem_of_getElem? e)
    have hge : s.heap.objs.size ≤ b := Nat.le_of_lt (hG.above b (List.mem_of_getElem? e))
    have ej : j2 = j := by
      have h1 : j2 < as.length := by
        rcases Nat.lt_or_ge j2 as.length with h | h
        · exact h
        · rw [List.getElem?_eq_none h] at e1; cases e1
      exact (List.getElem?_inj h1 nd).mp (e1.trans e.symm)
    subst ej
    exact ⟨hB _ (I.hok.fresh hge), fun k' q' v' e5 => by rw [e2] at e5; cases e5; rw [e4, e3]⟩
  refine sort_fin I2 hu (vs := as.map V.ref) ?_ reps ok fun vs' l r' n => q vs' l H2 g r' n
  clear reps qt hlL hl hG nd
  induction as with
  | nil => exact .nil
  | cons x l ih => exact .cons rfl ih
end
end DL
end
section
set_option maxRecDepth 100000
/-! DMap: dicts with tuple keys and sorted, over data. -/
namespace DL
open PySem PySem.Spec L2

section
variable {K : Ct} {Φ : Frm} {own : Ow} {ρ : En} {σ : L2.St} {H H' : Hp} {B B' : Addr → Prop}
/-- a new object of one's own, and others that only grew -/
theorem Rel.addS {p : Addr} {o : HO} (R : Rel K Φ own ρ σ H) (n : H p = none) (s : Same H H') (e : H' p = some o) (m : Mut (some o)) : Rel K Φ (p :: own) ρ σ H' := by
  refine ⟨fun i sl h => ?_, R.inj, fun a h => ?_, fun a h => ?_, fun a c e => ?_, fun q u h hn => s q u (R.keep q u h hn), R.lr⟩
  · have q := R.slots i sl h
    cases sl with
    | emp => trivial
    | val d => obtain ⟨v, e, r⟩ := q; exact ⟨v, e, r.mono' (Rel.B_to n) (same_keeps s)⟩
    | own d =>
      obtain ⟨a, e, e2, r⟩ := q
      exact ⟨a, e, List.mem_cons_of_mem _ e2, r.mono (Rel.B_to n) (same_keeps s) fun u => s a u⟩
    | src => exact q
  · by_cases q : a = p
    · subst q; rw [e]; exact m
    · exact mut_of_eq (R.mu a fun z => h ⟨z.1, fun q' => (List.mem_cons.mp q').elim q z.2⟩) fun u => s a u
  · rcases List.mem_cons.mp h with e | h
    · subst e; exact ⟨(R.fresh (b := true) n).1, R.fresh0 n⟩
    · exact R.sep a h
  · obtain ⟨n1, n2, q⟩ := R.src a c e
    exact ⟨n1, n2, q.same s⟩
theorem D.immL_mem : ∀ {ds : List D}, D.immL ds = true ↔ ∀ d ∈ ds, d.imm = true
  | [] => by simp [D.immL]
  | d :: ds => by rw [D.immL, Bool.and_eq_true, D.immL_mem]; simp
theorem sortD_imm {ds : List D} (h : D.immL ds = true) : D.immL (sortD ds) = true := D.immL_mem.mpr fun d hd => D.immL_mem.mp h d ((List.mergeSort_perm _ _).mem_iff.mp hd)
theorem sortD_len {ds : List D} : (sortD ds).length = ds.length := List.length_mergeSort _
/-- a fresh list of values without lists -/
theorem own_imm {p : Addr} {vs : List V} {ds : List D} (R : Rel K Φ (p :: own) ρ σ H') (e : H' p = some (.lst vs)) (hz : ds.length ≤ sizeLine) (r : Reps K B H' vs ds) (hi : D.immL ds = true) : OwnOk K (Φ.B (p :: own) true) H' p (.lst ds) :=
  ⟨vs, e, by rw [r.length]; exact hz, r.toImm hi R.muB⟩
end

section
variable {X : Cx} {e o : Expr} {te to : TE} {re ro : RE} {pos : Pos} {b : Bool} {t : TA} {rs : RAs}
/-! ### {} -/
def tDict0 (w : World) : TE := fun _ H Q => ∀ p, H p = none → Q (.ref p) (upd H p (.ext (dPhi w p 0 [])))
theorem mut_ext {H : Hp} {a : Addr} {Φ : Heap → Prop} (h : H a = some (.ext Φ)) : Mut (H a) := by rw [h]; trivial
theorem e_dict0N : DF X (.Dict [] [] pos) (tDict0 X.w) (rC (.dN [])) := ⟨pe_dnewN, fun Φ own ρ σ H Q Qv R hr hq => fun p hp => by
  have s : Same H (upd H p (.ext (dPhi X.w p 0 []))) := same_new hp
  exact hq p _ (.dN []) (R.add hp trivial) (same_grow s) hp ⟨0, [], upd_same, .nil, .nil⟩ hr⟩

/-! ### sorted(x) -/
def rSorted (rs : RAs) : RE := fun ρ Q => rs ρ fun ds => match ds with
  | [.lst xs] => sortOk xs ∧ Q (.lst (sortD xs))
  | [.dN kds] => sortOk (kds.map fun x => keyD x.1) ∧ Q (.lst (sortD (kds.map fun x => keyD x.1)))
  | _ => False
theorem repN_keys {K : Ct} {B : Addr → Prop} {H : Hp} : ∀ {L : NL} {kds : List (NestedKey × D)}, RepN K B H L kds → Reps K B H (L.map fun x => V.ref x.2.1) (kds.map fun x => keyD x.1)
  | _, _, .nil => .nil
  | _, _, .cons a _ _ t => .cons a (repN_keys t)
theorem Rep.atN {K : Ct} {B : Addr → Prop} {H : Hp} {v : V} {kds : List (NestedKey × D)} (h : Rep K B H v (.dN kds)) : ∃ a ep L, v = .ref a ∧ B a ∧ H a = some (.ext (dPhi K.w a ep L)) ∧ RepN K B H L kds ∧ (kds.map (·.1)).Nodup := by
  cases h with
  | dN b r t n => exact ⟨_, _, _, rfl, b, r, t, n⟩
theorem dfr_sorted {K : Ct} {n : Nat} (ha : DAr K b n t rs) : DFr K (tCB (rSrt K) t) (rSorted rs) := fun Φ own ρ σ H Q Qv R hr hq => ha Φ own ρ σ H _ _ R hr fun vs H1 ds R1 g1 rp hl q => by
  match ds, vs, rp, q with
  | [.lst xs], _, .cons r .nil, q =>
    obtain ⟨a, vs, rfl, ba, rd, hz, rs⟩ := r.sqL
    refine ⟨Φ.B own b, a, xs, vs, rfl, .inl (.inl (.inl rd)), rs, q.1, fun vs' p r' n => ?_⟩
    have s : Same H1 (upd H1 p (.lst vs')) := same_new n
    have R2 := R1.add (o := .lst vs') n trivial
    exact hq p _ _ R2 (g1.trans (same_grow s)) (R1.back g1 n) (own_imm R2 upd_same (by rw [sortD_len]; exact q.1.2.2.2.1) (r'.mono (same_keeps s)) (sortD_imm q.1.1)) q.2
  | [.dN kds], _, .cons r .nil, q =>
    obtain ⟨a, ep, L, rfl, ba, hd, rn, nd⟩ := r.atN
    refine ⟨Φ.B own b, a, _, _, rfl, .inr ⟨ep, L, hd, rfl⟩, repN_keys rn, q.1, fun vs' p r' n => ?_⟩
    have s : Same H1 (upd H1 p (.lst vs')) := same_new n
    have R2 := R1.add (o := .lst vs') n trivial
    exact hq p _ _ R2 (g1.trans (same_grow s)) (R1.back g1 n) (own_imm R2 upd_same (by rw [sortD_len]; exact q.1.2.2.2.1) (r'.mono (same_keeps s)) (sortD_imm q.1.1)) q.2
theorem e_sorted {p : Pos} (hc : X.calm = true) (hu : X.A.units + 70 < cLine) (hg : Gl X "sorted") (hm : X.mg "sorted" = none) (ha : DA X b [e] t rs)
    (he : starEach [e] X.env = (false, eval e X.env) :: starEach [] X.env := by rfl) (hpl : (backTo pos (starEach [] X.env)).any (·.1) = false := by rfl) :
    DF X (.Call (.Name "sorted" p) [e] [] pos) (tCB (rSrt X.ct) t) (rSorted rs) :=
  ⟨pe_callB (cr_srt hc hu) hg hm (by rfl) ha.pa (by decide) (by decide) he hpl, dfr_sorted ha.rd⟩
/-! ### methods of such a dict -/
def tBMX (w : World) (r : V → List V → Hp → VK → Prop) (to : TE) (t : TA) : TE := fun σ H Q => to σ H fun x H1 => (∃ a ep L, x = .ref a ∧ H1 a = some (.ext (dPhi w a ep L))) ∧ t σ H1 fun xs H2 => r x xs H2 Q
variable {es : List Expr} {name : Str} {apos cpos : Pos} {id : String} {r : V → List V → Hp → VK → Prop}
theorem ext_ty {pins : List (Addr × Obj)} {σ : L2.St} {H : Hp} {s : Shared} {x : V} {v : Value} (I : Inv X pins σ H s) (rx : RelV x v) (h : ∃ a ep L, x = .ref a ∧ H a = some (.ext (dPhi X.w a ep L))) : s.TypeIs v "dict" ∧ ∀ a, v = .ref a → ∃ ob, s.heap.get? a = some ob ∧ ob.dict = none := by
  obtain ⟨a, ep, L, rfl, h⟩ := h
  cases rx
  obtain ⟨_, _, ob, es, ho, hx, _⟩ := dN_raw I h
  exact ⟨⟨ob, ho, hx.1⟩, fun a' e => by cases e; exact ⟨ob, ho, hx.2.1⟩⟩
theorem pe_bmX0 (slot : Slot "dict" name id) (hty : typeOf (.builtin id) = pure (.type "method_descriptor")) (hm : MtR X id r) (ho : PE X o to)
    (hbase : attributeBase o name X.env (eval o X.env) = eval o X.env := by rfl) (hline : (apos.endLine == cpos.line) = true := by rfl) : PE X (.Call (.Attribute o name apos) [] [] cpos) (tBMX X.w r to tNil) := by
  refine ⟨fun pins s σ H Q I h => ?_⟩
  refine wpAny_Call_method0_late hbase hline (thn (ho.run pins s σ H _ I h) fun v s1 ⟨x, H1, I1, r1, ty, q1⟩ => ?_)
  obtain ⟨h1, h2⟩ := ext_ty I1 r1 ty
  exact ⟨"dict", id, PySem.F.plainAttrs_dict, slot, hty, h1, h2, Calls.callWith_builtin rfl (PySem.evalArgs_none (hm pins s1 σ H1 x [] v [] Q I1 r1 .nil q1))⟩
theorem pe_bmX (slot : Slot "dict" name id) (hty : typeOf (.builtin id) = pure (.type "method_descriptor")) (hm : MtR X id r) (ho : PE X o to) (ha : PA X (e :: es) t)
    (hbase : attributeBase o name X.env (eval o X.env) = eval o X.env := by rfl)
    (hfew : ((backTo cpos (starEach (e :: es) X.env)).all (fun x => !x.1) && (backToKw cpos (keywordEach [] X.env)).all (fun x => x.1.isSome)
      && decide ((e :: es).length + ([] : List Keyword).length + (if ([] : List Keyword).isEmpty then 0 else 1) < 30)) = true := by rfl)
    (hline : (apos.endLine == cpos.line) = true := by rfl) (hs : starEach (e :: es) X.env = (false, eval e X.env) :: starEach es X.env := by rfl) (hplain : (backTo cpos (starEach es X.env)).any (·.1) = false := by rfl) :
    PE X (.Call (.Attribute o name apos) (e :: es) [] cpos) (tBMX X.w r to t) := by
  refine ⟨fun pins s σ H Q I h => ?_⟩
  refine wpAny_Call_method_late hbase hfew hline rfl (thn (ho.run pins s σ H _ I h) fun v s1 ⟨x, H1, I1, r1, ty, q1⟩ => ?_)
  obtain ⟨h1, h2⟩ := ext_ty I1 r1 ty
  refine ⟨"dict", id, PySem.F.plainAttrs_dict, slot, hty, h1, h2, ?_⟩
  have hA := ha.run cpos pins s1 σ H1 _ I1 q1
  rw [hs] at hA ⊢
  refine Calls.callWith_builtin (by show (false || (backTo cpos (starEach es X.env)).any (·.1)) = false; rw [hplain] <;> rfl) (Calls.evalArgs_plain ?_)
  exact thn hA fun us s2 ⟨vs, H2, I2, r2, q2⟩ => hm pins s2 σ H2 x vs v us Q I2 r1 r2 q2
/-! sorted(d.items()) -/
def rSortIt (ro : RE) : RE := fun ρ Q => ro ρ fun d => match d with
  | .dN kds => sortOk (itemsD kds) ∧ Q (.lst (sortD (itemsD kds)))
  | _ => False
theorem e_sortIt {p : Pos} (hc : X.calm = true) (hu : X.A.units + 70 < cLine) (hg : Gl X "sorted") (hm : X.mg "sorted" = none) (ho : DE X b o to ro)
    (hbase : attributeBase o "items" X.env (eval o X.env) = eval o X.env := by rfl) (hline : (apos.endLine == cpos.line) = true := by rfl)
    (he : starEach [.Call (.Attribute o "items" apos) [] [] cpos] X.env = (false, eval (.Call (.Attribute o "items" apos) [] [] cpos) X.env) :: starEach [] X.env := by rfl) (hpl : (backTo pos (starEach [] X.env)).any (·.1) = false := by rfl) :
    DF X (.Call (.Name "sorted" p) [.Call (.Attribute o "items" apos) [] [] cpos] [] pos) (tCB (rSrtIt X.ct) (tCons (tBMX X.w (rItemsN X.w) to tNil) tNil)) (rSortIt ro) :=
  ⟨pe_callB (cr_srtIt hc hu) hg hm (by rfl) (pa_cons (pe_bmX0 PySem.F.slot_dict_items PySem.F.type_dict_items mt_itemsN ho.pe hbase hline) pa_nil he) (by decide) (by decide) he hpl, fun Φ own ρ σ H Q Qv R hr hq => ho.rd Φ own ρ σ H _ _ R hr fun v H1 d R1 g1 rp q => by
    cases d with
    | dN kds =>
      obtain ⟨a, ep, L, rfl, ba, hd, rn, nd⟩ := rp.atN
      refine ⟨⟨a, ep, L, rfl, hd⟩, a, ep, L, rfl, rfl, hd, fun p n => ?_⟩
      have s1 : Same H1 (upd H1 p (L2.DX.itemsO p a)) := same_new n
      have R2 := R1.same s1
      refine ⟨Φ.B own b, p, a, ep, L, kds, rfl, upd_same, s1 _ _ hd, fun _ => R2.fresh, rn.mono (same_keeps s1), q.1, fun vs' l H2 s2 r' n2 => ?_⟩
      have R3 := R2.same s2
      have s3 : Same H2 (upd H2 l (.lst vs')) := same_new n2
      have R4 := R3.add (o := .lst vs') n2 trivial
      have g : Grow Φ H H2 := (g1.trans (same_grow s1)).trans (same_grow s2)
      have hi := sortD_imm q.1.1
      exact hq l _ _ R4 (g.trans (same_grow s3)) (R3.back g n2) (own_imm R4 upd_same (by rw [sortD_len]; exact q.1.2.2.2.1) (r'.mono (same_keeps s3)) hi) q.2
    | _ => exact q.elim⟩

/-! ### d.get(k, x), d[k], k in d -/
def KeyOk (d : D) (k : NestedKey) : Prop := d = keyD k ∧ k.depth ≤ 8 ∧ ∃ ks, k = .tup ks
theorem KeyOk.in {K : Ct} {B : Addr → Prop} {H : Hp} {v : V} {d : D} {k : NestedKey} (h : KeyOk d k) (r : Rep K B H v d) : ∃ q, v = .ref q ∧ KeyIn K H q k ∧ Rep K B H (.ref q) (keyD k) := by
  obtain ⟨rfl, l, ks, rfl⟩ := h
  have r' := r
  rw [keyD] at r'
  obtain ⟨q, vs, rfl, _⟩ := r'.sqT
  exact ⟨q, rfl, ⟨l, B, r⟩, r⟩
theorem RepN.dnat {K : Ct} {B : Addr → Prop} {H : Hp} {a : Addr} {ep : Nat} {L : NL} {kds : List (NestedKey × D)} (h : H a = some (.ext (dPhi K.w a ep L))) (r : RepN K B H L kds) (n : (kds.map (·.1)).Nodup) : DNat K H a ep L :=
  ⟨h, fun x hx => r.keyIn x hx, by rw [r.keys]; exact n⟩
def rGetN (K : Ct) : V → List V → Hp → VK → Prop := fun x xs H Q => ∃ a ep L k q dv, x = .ref a ∧ xs = [.ref q, dv] ∧ DNat K H a ep L ∧ KeyIn K H q k ∧ Q (((atN L k).map (·.2)).getD dv) H
open PyProof.Rows in
theorem mt_getN (hu : X.A.units + 64 < cLine) : MtR X "dict.get" (rGetN X.ct) := by
  intro pins s σ H x xs v us Q I rx rxs h
  obtain ⟨a, ep, L, k, q, dv, rfl, rfl, ⟨ha, hk, hn⟩, hq, hQ⟩ := h
  cases rx
  obtain ⟨u1, u2, rfl, r1, r2⟩ := vals2 rxs
  cases r1
  obtain ⟨lo, _, xs, es, hm, _, _, hp⟩ := dN_at I ha hk hn
  refine call_meetsIn PySem.F.slot_dict_get hm.typeIs PySem.F.entry_dict_get (PySem.F.args_dict_get_3 _ _ _) (meetsH_dict_get_default (nestedKind X.prog X.w) _ q lo u2) ⟨by show X.A.units + 1 + 8 < cLine; omega, k, xs, key_of I hq, hm, ?_⟩
  show EP X pins σ Q _ _
  rcases PX.at hp (k := k) with ⟨e1, e2⟩ | ⟨q2, v2, w2, e1, e2, r3⟩
  · rw [e2]
    rw [e1] at hQ
    exact ⟨dv, H, I.tok _, r2, hQ⟩
  · rw [e2]
    rw [e1] at hQ
    exact ⟨v2, H, I.tok _, r3, hQ⟩
def rGet (ro : RE) (rs : RAs) : RE := fun ρ Q => ro ρ fun d => match d with
  | .dN kds => rs ρ fun ds => match ds with
    | [dk, dd] => ∃ k, KeyOk dk k ∧ Q ((atN kds k).getD dd)
    | _ => False
  | _ => False
theorem der_get {K : Ct} {n : Nat} (ho : DEr K b to ro) (ha : DAr K b n t rs) : DEr K b (tBMX K.w (rGetN K) to t) (rGet ro rs) := fun Φ own ρ σ H Q Qv R hr hq => ho Φ own ρ σ H _ _ R hr fun v H1 d R1 g1 rp q => by
  cases d with
  | dN kds =>
    obtain ⟨a, ep, L, rfl, ba, hd, rn, nd⟩ := rp.atN
    refine ⟨⟨a, ep, L, rfl, hd⟩, ha Φ own ρ σ H1 _ _ R1 q fun vs H2 ds R2 g2 rps hl q2 => ?_⟩
    have rp2 := R1.rep g2 rp
    obtain ⟨a2, ep2, L2, ea, _, hd2, rn2, nd2⟩ := rp2.atN
    cases ea
    match ds, vs, rps, q2 with
    | [dk, dd], _, .cons rk (.cons rd .nil), q2 =>
      obtain ⟨k, ok, q2⟩ := q2
      obtain ⟨q', rfl, hin, _⟩ := ok.in rk
      refine ⟨a, ep2, L2, k, q', _, rfl, rfl, rn2.dnat hd2 nd2, hin, ?_⟩
      rcases rn2.at (k := k) with ⟨e1, e2⟩ | ⟨q3, v3, d3, e1, e2, r3⟩
      · rw [e1]
        rw [e2] at q2
        exact hq _ H2 _ R2 (g1.trans g2) rd q2
      · rw [e1]
        rw [e2] at q2
        exact hq _ H2 _ R2 (g1.trans g2) r3 q2
  | _ => exact q.elim
theorem e_get {e2 : Expr} (hu : X.A.units + 70 < cLine) (ho : DE X b o to ro) (ha : DA X b [e, e2] t rs)
    (hbase : attributeBase o "get" X.env (eval o X.env) = eval o X.env := by rfl)
    (hfew : ((backTo cpos (starEach [e, e2] X.env)).all (fun x => !x.1) && (backToKw cpos (keywordEach [] X.env)).all (fun x => x.1.isSome)
      && decide ([e, e2].length + ([] : List Keyword).length + (if ([] : List Keyword).isEmpty then 0 else 1) < 30)) = true := by rfl)
    (hline : (apos.endLine == cpos.line) = true := by rfl) (hs : starEach [e, e2] X.env = (false, eval e X.env) :: starEach [e2] X.env := by rfl) (hplain : (backTo cpos (starEach [e2] X.env)).any (·.1) = false := by rfl) :
    DE X b (.Call (.Attribute o "get" apos) [e, e2] [] cpos) (tBMX X.w (rGetN X.ct) to t) (rGet ro rs) :=
  ⟨pe_bmX PySem.F.slot_dict_get PySem.F.type_dict_get (mt_getN (by omega)) ho.pe ha.pa hbase hfew hline hs hplain, der_get ho.rd ha.rd⟩
/-! d[k], also of lists and tuples -/
def oIxA : RO := fun x y Q => match x with
  | .dN kds => ∃ k d, KeyOk y k ∧ atN kds k = some d ∧ Q d
  | x => oIx x y Q
def rIxA (K : Ct) : R2 := fun x y H Q => rIxU K.K x y H Q ∨ rIxN K x y H Q
theorem ix_A (hu : X.A.units + 64 < cLine) : IxR X (rIxA X.ct) := ix_U.or (ix_dN hu)
theorem d_ixN {K : Ct} : DOp K (rIxN K) (fun x y Q => match x with
  | .dN kds => ∃ k d, KeyOk y k ∧ atN kds k = some d ∧ Q d
  | _ => False) := fun B x y H d1 d2 Q Qv fr r1 r2 hq k => by
  cases d1 with
  | dN kds =>
    obtain ⟨a, ep, L, rfl, ba, hd, rn, nd⟩ := r1.atN
    obtain ⟨k', d, ok, e, q⟩ := hq
    obtain ⟨q', rfl, hin, _⟩ := ok.in r2
    rcases rn.at (k := k') with ⟨e1, e2⟩ | ⟨q3, v3, d3, e1, e2, r3⟩
    · rw [e2] at e; cases e
    · rw [e2] at e; cases e
      exact ⟨a, ep, L, k', q', q3, v3, rfl, rfl, rn.dnat hd nd, hin, e1, k v3 H _ (fun _ _ e => e) r3 q⟩
  | _ => exact hq.elim
theorem d_ixA {K : Ct} : DOp K (rIxA K) oIxA := (d_ixU.or d_ixN).imp fun x y Q h => by
  cases x with
  | dN kds => exact .inr h
  | _ => exact .inl h
end
end DL
end
section
set_option maxRecDepth 100000
/-! DWalk: x[i] = v of one's own; keys and items walked. -/
namespace DL
open PySem PySem.Spec L2

section
variable {X : Cx} {e o : Expr} {te to : TE} {re ro : RE} {pos : Pos} {b : Bool} {t : TA} {rs : RAs}
/-! ### x[k] = e, x a dict or a list of one's own -/
def rPut (i : Nat) (rk re : RE) : RS := fun D ρ => re ρ fun d => match ρ[i]? with
  | some (.own (.dN kds)) => rk ρ fun dk => ∃ k, KeyOk dk k ∧ kds.length < sizeLine ∧ D.nx (ρ.set i (.own (.dN (putN kds k d))))
  | some (.own (.lst ds)) => rk ρ fun dk => ∃ z j, dk = .int z ∧ ixN ds.length z = some j ∧ D.nx (ρ.set i (.own (.lst (ds.set j d))))
  | _ => False
def rSetU (K : Ct) : TSet := fun o i v H Q => rPutN K o i v H Q ∨ rSetL o i v H Q
theorem set_U (hu : X.A.units + 64 < cLine) : PSet X (rSetU X.ct) := by
  intro pins s σ H o i v ov iv u Q I ro ri rv h
  rcases h with h | h
  · exact set_dN hu pins s σ H o i v ov iv u Q I ro ri rv h
  · exact set_list pins s σ H o i v ov iv u Q I ro ri rv h
theorem s_put (i : Nat) {x : Str} {px ps : Pos} {ek : Expr} {tk : TE} {rk : RE} (hu : X.A.units + 70 < cLine) (hk : DE X true ek tk rk) (he : DE X true e te re) (hN : X.N[i]? = some x := by rfl)
    (hv : Vis X.env.scope x := by first | exact Or.inl rfl | exact Or.inr (Or.inl rfl) | exact Or.inr (Or.inr rfl)) (hd : (x == ("__debug__" : Str)) = false := by decide) (hcd : (x == ("__classdict__" : Str)) = false := by decide)
    (ha : ∀ v, assign (.Subscript (.Name x px) ek ps) X.env v = (do
      let ov ← holding [v] (eval (.Name x px) X.env)
      let iv ← holding [v, ov] (eval ek X.env)
      standAt ps
      holding [v, ov, iv] (setItem ov iv v)
      release [v, ov, iv] []) := by intro _; rfl)
    (hs : swapsWithSole [.Subscript (.Name x px) ek ps] e pos.line X.env = pure false := by rfl) (hw : swappedStores [.Subscript (.Name x px) ek ps] e X.env = pure none := by rfl)
    (h1 : (assignEach [.Subscript (.Name x px) ek ps] X.env).map (·.2) = [assign (.Subscript (.Name x px) ek ps) X.env] := by rfl) :
    DS X (.Assign [.Subscript (.Name x px) ek ps] e pos) (rPut i rk re) :=
  ⟨_, ps_asg he.pe (pg_sub (pe_var hN hv hd hcd) hk.pe (set_U (by omega)) ha) hs hw h1, fun Φ own ρ σ H D E R h l => he.rd Φ own ρ σ H _ _ R h fun v H1 d R1 g1 rp q => by
    split at q
    · rename_i kds hi
      obtain ⟨a, ha', m, ep, L, ea, rn, nd⟩ := R1.ownAt hi
      refine ⟨_, ha', hk.rd Φ own ρ σ H1 _ _ R1 q fun vk H2 dk R2 g2 rpk q2 => ?_⟩
      obtain ⟨k, ok, hz, q2⟩ := q2
      obtain ⟨q', rfl, hin, rq⟩ := ok.in rpk
      have ea2 := g2 a _ (R1.ownNsx m) ea
      have rn2 := rn.mono (R1.keeps g2)
      have rv2 := R1.rep g2 rp
      refine .inl ⟨a, ep, L, k, q', rfl, rfl, rn2.dnat ea2 nd, hin, by rw [rn.length]; exact hz, fun ep' => ?_⟩
      have kp : Keeps (Φ.B own true) H2 (upd H2 a (.ext (dPhi X.ct.w a ep' (putL L k q' v)))) := fun p o hb e => by rw [upd_ne fun z => hb.2 (by rw [z]; exact m)]; exact e
      obtain ⟨R3, ev⟩ := R2.write (H' := upd H2 a (.ext (dPhi X.ct.w a ep' (putL L k q' v)))) (d := .dN (putN kds k d)) hi ha' (fun q hq => upd_ne hq) ⟨ep', _, upd_same, (RepN.put rn2 rq ok.2.1 rv2).mono kp, putN_nodup nd⟩
      exact l.nx own _ σ _ R3 ((R.evo (g1.trans g2)).trans ev) q2
    · rename_i ds hi
      obtain ⟨a, ha', m, vs, ea, hz, rv⟩ := R1.ownAt hi
      refine ⟨_, ha', hk.rd Φ own ρ σ H1 _ _ R1 q fun vk H2 dk R2 g2 rpk q2 => ?_⟩
      obtain ⟨z, j, rfl, hj, q2⟩ := q2
      rw [rpk.isInt]
      have ea2 := g2 a _ (R1.ownNsx m) ea
      have rv2 := R1.rep g2 rp
      refine .inr ⟨a, vs, z, j, rfl, rfl, ea2, by rw [rv.length]; exact hj, ?_⟩
      obtain ⟨R3, ev⟩ := R2.wLst hi ha' (by rw [List.length_set]; exact hz) ((R1.reps g2 rv).set rv2 j)
      exact l.nx own _ σ _ R3 ((R.evo (g1.trans g2)).trans ev) q2
    · exact q.elim⟩

/-! ### for k in d; for k, v in d.items() -/
def ItkN (w : World) (d : Addr) (ep : Nat) (L : NL) : It :=
  ⟨fun i H => H d = some (.ext (dPhi w d ep L)) ∧ i < L.length, fun i H x H' => H' = H ∧ ∃ k q v, L[i]? = some (k, q, v) ∧ x = .ref q, fun i H => H d = some (.ext (dPhi w d ep L)) ∧ L.length ≤ i⟩
def ItiN (w : World) (d : Addr) (ep : Nat) (L : NL) : It :=
  ⟨fun i H => H d = some (.ext (dPhi w d ep L)) ∧ i < L.length, fun i H x H' => ∃ T k q v, L[i]? = some (k, q, v) ∧ x = .ref T ∧ H T = none ∧ H' = upd H T (.tup [.ref q, v]), fun i H => H d = some (.ext (dPhi w d ep L)) ∧ L.length ≤ i⟩
open PyProof.Rows
theorem turn_keysN {P : Program} {w : World} {K : PySem.W.Frag} {tg : Expr} {d : Addr} {ep : Nat} {L : NL} (it : Addr) : Turn P w K tg (ItkN w d ep L) [it] it (fun i h => h.IsKeyIter it d i L.length ep) where
  mem := by simp
  obj := fun i h st b hb => by
    have e : b = it := by simpa using hb
    subst e
    obtain ⟨oi, e, c, dd⟩ := st
    exact ⟨oi, e, fun v z => by rw [dd] at z; cases z⟩
  keep := fun i h h' st k => st.at fun oi e => k it (by simp) oi e
  item := by
    intro X hP hw hK hc i pins s σ H E I hf st hg
    subst hP hw hK
    obtain ⟨hd, hi⟩ := hg
    obtain ⟨f0, f1, f2, f3, f4, f5⟩ := hf it (by simp)
    obtain ⟨hs, hz, o, es, hgd, hx, hdt, hes, ent⟩ := dN_raw I hd
    obtain ⟨⟨k, q, v⟩, hkv⟩ : ∃ p, L[i]? = some p := ⟨L[i], List.getElem?_eq_getElem hi⟩
    obtain ⟨en, hen, hkey, hval⟩ := ent i k q v hkv
    refine next_key_item st hgd hdt hes hen fun h' st' sb => ?_
    have I1 : Inv X pins σ H { s with heap := h' } := I.turned (t' := s.toks) (fun b ob hb e => (sb.2 b hb).trans e) f0 f1 f3 f4 f5
    obtain ⟨oi, e, c, dd⟩ := id st'
    exact ⟨en.key, rfl, go_of (s := { s with heap := h' }) e c dd (by decide) ⟨.ref q, H, I1, hkey, ⟨rfl, k, q, v, hkv, rfl⟩, st', fun b hb => (hf b hb).1⟩⟩
  done := by
    intro X hP hw hK hc i pins s σ H E I hf st hg
    subst hP hw hK
    obtain ⟨hd, hi⟩ := hg
    obtain ⟨f0, f1, f2, f3, f4, f5⟩ := hf it (by simp)
    obtain ⟨hs, hz, o, es, hgd, hx, hdt, hes, ent⟩ := dN_raw I hd
    exact next_key_end (I.ok.hd hc) st hgd hdt hes hi fun h' eb => ⟨rfl, I.turned (t' := s.toks) (fun b ob hb e => eb b ob hb e) f0 f1 f3 f4 f5⟩
  self := fun A i s Q E st h => by
    refine wpAny_pyIter_slot st.typeIs PySem.F.slot_dict_keyiterator_iter (wpAny_call_entry PySem.F.slot_dict_keyiterator_iter st.typeIs PySem.F.entry_dict_keyiterator_iter ?_ (PySem.F.args_dict_keyiterator_iter_1 _))
    show wpAny _ _ (ret (.ref it)) _ _ s
    exact wpAny_pure ⟨_, rfl, "dict_keyiterator", _, st.typeIs, PySem.F.slot_dict_keyiterator_next.lookup, h⟩
theorem turn_itemsN {P : Program} {w : World} {K : PySem.W.Frag} {d : Addr} {ep : Nat} {L : NL} {elts : List Expr} {kk : Nat} {tpos : Pos} (it : Addr) :
    Turn P w K (.Tuple elts kk tpos) (ItiN w d ep L) [it] it (fun i h => ∃ ok ov, PySem.IsItemIter h it d i L.length ep ok ov) where
  mem := by simp
  obj := fun i h st b hb => by
    have e : b = it := by simpa using hb
    subst e
    obtain ⟨ok, ov, e⟩ := st
    exact ⟨_, e, fun v z => nomatch z⟩
  keep := fun i h h' st k => let ⟨ok, ov, e⟩ := st; ⟨ok, ov, k it (by simp) _ e⟩
  item := by
    intro X hP hw hK hc i pins s σ H E I hf st hg
    subst hP hw hK
    obtain ⟨hd, hi⟩ := hg
    obtain ⟨hs, hz, o, es, hgd, hx, hdt, hes, ent⟩ := dN_raw I hd
    obtain ⟨⟨k, q, v⟩, hkv⟩ : ∃ p, L[i]? = some p := ⟨L[i], List.getElem?_eq_getElem hi⟩
    obtain ⟨en, hen, hkey, hval⟩ := ent i k q v hkv
    have hi' : i < es.size := by omega
    rw [Array.getElem?_eq_getElem hi'] at hen
    have e4 : es[i] = en := Option.some.inj hen
    subst e4
    obtain ⟨ok, ov, he⟩ := st
    rw [← hes] at he
    have hlt : it < s.heap.objs.size := Heap.lt_size he
    refine wpAny_pyNext_items_item_raw he ⟨o, hgd, hx, hdt⟩ hi' fun h' ho hT hz hk => ?_
    refine ⟨_, rfl, wpAny_letOwnedTupleGo_items (s := { s with heap := h' }) ho fun h'' he' sb => ?_⟩
    have hT2 : h''.get? s.heap.objs.size = some { cls := .type "tuple", data := .seq #[es[i].key, es[i].val] } := (sb.2 _ (Nat.ne_of_gt hlt)).trans hT
    have new : ObjOk X.prog X.w (upd H s.heap.objs.size (.tup [.ref q, v])) h'' s.heap.objs.size (.tup [.ref q, v]) :=
      ⟨by show 2 ≤ sizeLine; decide, [es[i].key, es[i].val], .cons hkey (.cons hval .nil), ⟨_, hT2, rfl, _, rfl⟩⟩
    have I1 : Inv X pins σ (upd H s.heap.objs.size (.tup [.ref q, v])) { s with heap := h'' } :=
      I.turnedNew (t' := s.toks) (ch := [it]) (fun b ob hb e => (sb.2 b (by simpa using hb)).trans (hk b ob (by simpa using hb) e)) hf (Nat.le_refl _) new
    refine ⟨.ref s.heap.objs.size, _, I1, rfl, ⟨_, k, q, v, hkv, rfl, I.hok.fresh (Nat.le_refl _), rfl⟩, ⟨es[i].key, es[i].val, ?_⟩, fun b hb => ?_⟩
    · rw [← hes]; exact he'
    · have e : b = it := by simpa using hb
      rw [e, upd_ne (Nat.ne_of_lt hlt)]
      exact (hf it (by simp)).1
  done := by
    intro X hP hw hK hc i pins s σ H E I hf st hg
    subst hP hw hK
    obtain ⟨hd, hi⟩ := hg
    obtain ⟨f0, f1, f2, f3, f4, f5⟩ := hf it (by simp)
    obtain ⟨hs, hz, o, es, hgd, hx, hdt, hes, ent⟩ := dN_raw I hd
    obtain ⟨ok, ov, he⟩ := st
    rw [← hes] at he
    exact wpAny_pyNext_items_end_raw (I.ok.hd hc) he ⟨o, hgd, hx, hdt⟩ (by omega) fun h' eb => ⟨rfl, I.turned (t' := s.toks) (fun b ob hb e => eb b ob hb e) f0 f1 f3 f4 f5⟩
  self := fun A i s Q E st h => let ⟨_, _, e⟩ := st; PySem.W.kcp_self e h
def iItemsN (w : World) (td : TE) : TI := fun σ H R => td σ H fun x H1 => ∃ d ep L, x = .ref d ∧ H1 d = some (.ext (dPhi w d ep L)) ∧ R (ItiN w d ep L) H1
theorem pi_itemsN {elts : List Expr} {kk : Nat} {apos cpos tpos : Pos} (he : PE X o to) (hbase : attributeBase o "items" X.env (eval o X.env) = eval o X.env := by rfl) (hline : (apos.endLine == cpos.line) = true := by rfl) :
    PI X (.Tuple elts kk tpos) (.Call (.Attribute o "items" apos) [] [] cpos) (iItemsN X.w to) := by
  refine ⟨fun pins s σ H R I h => ?_⟩
  refine wpAny_Call_method (T := "dict") (id := "dict.items") hbase rfl hline PySem.F.plainAttrs_dict PySem.F.slot_dict_items PySem.F.type_dict_items (thn (he.run pins s σ H _ I h) fun u s1 ⟨x, H1, I1, rx, d, ep, L, ex, hd, q⟩ => ?_)
  subst ex
  obtain rfl : u = Value.ref d := rx
  obtain ⟨hs, hz, ob, es, hgd, hx, hdt, hes, ent⟩ := dN_raw I1 hd
  have hm : s1.heap.DictRaw d es ep := ⟨ob, hgd, hx, hdt⟩
  refine ⟨hm.typeIs, fun a e => by cases e; exact ⟨ob, hgd, hx.2.1⟩, ?_⟩
  have I2 : Inv X pins σ H1 { s1 with heap := s1.heap.push { cls := .type "dict_items", data := .fields #[.ref d] } } := I1.kept (t' := s1.toks) fun b ob q => Heap.get?_push_of_some _ q
  have fin : wpAny (model X.prog X.w) X.A (pyIter (.ref s1.heap.objs.size)) (PIE X pins σ (.Tuple elts kk tpos) R) X.xe { s1 with heap := s1.heap.push { cls := .type "dict_items", data := .fields #[.ref d] } } := by
    refine wpAny_pyIter_items_raw (d := d) ⟨_, Heap.get?_push_size _ rfl, rfl, rfl⟩ (hm.push _) (pi_one (tk := s1.toks) I2 _ (turn_itemsN _) ⟨.none, .none, ?_⟩ q)
    rw [← hes]
    exact Heap.get?_push_size _ rfl
  show wpAny _ _ (callWith cpos (.builtin "dict.items") [.ref d] [] []) _ X.xe s1
  exact method_meetsIn PySem.F.slot_dict_items PySem.F.entry_dict_items rfl (PySem.evalArgs_none ⟨rfl, hm.typeIs, PySem.F.args_dict_items_1 _, _, meets_dict_items_raw d hs, ⟨es, ep, hm⟩, fin⟩)
theorem walk_items {K : Ct} {d : Addr} {ep : Nat} {L : NL} : Walk (ItiN K.w d ep L) L.length (fun H => H d = some (.ext (dPhi K.w d ep L))) (fun i H x H' => ∃ T k q v, L[i]? = some (k, q, v) ∧ x = .ref T ∧ H T = none ∧ H' = upd H T (.tup [.ref q, v])) :=
  ⟨fun i H hi h => ⟨h, hi⟩, fun H h => ⟨h, Nat.le_refl _⟩, fun i H x H' hi h y => y⟩
theorem walk_keysN {K : Ct} {d : Addr} {ep : Nat} {L : NL} : Walk (ItkN K.w d ep L) L.length (fun H => H d = some (.ext (dPhi K.w d ep L))) (fun i H x H' => H' = H ∧ ∃ k q v, L[i]? = some (k, q, v) ∧ x = .ref q) :=
  ⟨fun i H hi h => ⟨h, hi⟩, fun H h => ⟨h, Nat.le_refl _⟩, fun i H x H' hi h y => y⟩
theorem RepN.get {K : Ct} {B : Addr → Prop} {H : Hp} : ∀ {L : NL} {kds : List (NestedKey × D)} {i : Nat} {k : NestedKey} {q : Addr} {v : V}, RepN K B H L kds → L[i]? = some (k, q, v) → ∃ d, kds[i]? = some (k, d) ∧ Rep K B H (.ref q) (keyD k) ∧ Rep K B H v d
  | _, _, _, _, _, _, .nil, e => by simp at e
  | _, _, i, k, q, v, .cons a _ c t, e => by
    cases i with
    | zero =>
      have e' := Option.some.inj e
      cases e'
      exact ⟨_, rfl, a, c⟩
    | succ i =>
      obtain ⟨d, e2, r⟩ := RepN.get (i := i) t (by simpa using e)
      exact ⟨d, by simpa using e2, r⟩
def vImm (kds : List (NestedKey × D)) : Prop := ∀ x ∈ kds, x.2.imm = true
mutual
theorem keyD_imm : ∀ k : NestedKey, (keyD k).imm = true
  | .none => by simp [keyD, D.imm]
  | .num i => by simp [keyD, D.imm]
  | .text x => by simp [keyD, D.imm]
  | .tup ks => by simp only [keyD, D.imm]; exact keysD_imm ks
theorem keysD_imm : ∀ ks : List NestedKey, D.immL (keysD ks) = true
  | [] => by simp [keysD, D.immL]
  | k :: ks => by simp only [keysD, D.immL, Bool.and_eq_true]; exact ⟨keyD_imm k, keysD_imm ks⟩
end
def dDN (Q : List (NestedKey × D) → Prop) : D → Prop
  | .dN kds => Q kds
  | _ => False
/-- for k, v in d.items() -/
def riItems (re : RE) : RI := fun ρ Q => re ρ (dDN fun kds => (vImm kds ∧ kds.length ≤ sizeLine) ∧ Q (itemsD kds))
theorem i_itemsN {elts : List Expr} {kk : Nat} {apos cpos tpos : Pos} (he : DE X b o to ro) (hbase : attributeBase o "items" X.env (eval o X.env) = eval o X.env := by rfl) (hline : (apos.endLine == cpos.line) = true := by rfl) :
    DI X b (.Tuple elts kk tpos) (.Call (.Attribute o "items" apos) [] [] cpos) (iItemsN X.w to) (riItems ro) :=
  ⟨pi_itemsN he.pe hbase hline, fun Φ own ρ σ H Q Qv R hr hq => he.rd Φ own ρ σ H _ _ R hr fun v H1 d R1 g1 rp q => by
    cases d with
    | dN kds =>
      obtain ⟨a, ep, L, rfl, ba, hd, rn, nd⟩ := rp.atN
      refine ⟨a, ep, L, rfl, hd, hq _ H1 (itemsD kds) R1 g1 ?_ q.2⟩
      have hl : (itemsD kds).length = L.length := by rw [itemsD, List.length_map, rn.length]
      have hz : L.length ≤ sizeLine := by rw [rn.length]; exact q.1.2
      refine ⟨_, _, by rw [hl]; exact hz, by rw [hl]; exact walk_items (K := X.ct), fun H k => k _ _ ba hd, fun B' i H x H' hB hm hk hi y => ?_⟩
      obtain ⟨T, k, q', v, e, rfl, hT, rfl⟩ := y
      obtain ⟨d, ed, r1, r2⟩ := (rn.mono hk).get e
      have s : Same H (upd H T (.tup [.ref q', v])) := same_new hT
      refine ⟨s, .tup [keyD k, d], by rw [itemsD, List.getElem?_map, ed]; rfl, ?_⟩
      refine .tup (fresh_of hm T hT) (.inl upd_same) (by show 2 ≤ sizeLine; decide) (.cons ((r1.toImm (keyD_imm k) hm).mono (same_keeps s)) (.cons ((r2.toImm (q.1.1 _ (List.mem_of_getElem? ed)) hm).mono (same_keeps s)) .nil))
    | _ => exact q.elim⟩
end
end DL
end
section
set_option maxRecDepth 100000
set_option maxHeartbeats 1000000 in
/-! DZip: zip of two, of three, enumerate: of lists and tuples in any mix. -/
namespace PySem
open PySem
theorem dz_enum_new1 {v : Value} {o : Obj} {H : Heap → Prop} (B : Begins v o H) :
    Meets (Builtin.«enumerate.__new__» ⟨[.type "enumerate", v], []⟩) (fun _ R s => H s.heap ∧
      R (.ok (.ret (.ref (s.heap.push o).objs.size))) { s with heap := (s.heap.push o).push { cls := .type "enumerate", data := .fields #[.none, .bool false, .ref s.heap.objs.size, rawInt 0, .none, .none] } }) :=
  .of_wp fun prog w A R s h => by
    obtain ⟨hp, g, d, tk, os⟩ := s; obtain ⟨h1, h⟩ := h
    have hsub := sub_enumerate
    have q1 : ∀ {A' : Around} {E : Value → Shared → Prop} {Q : Value → Shared → Prop}, Q (.ref hp.objs.size) ⟨hp.push o, g, d, tk, os⟩ → wpAny (model prog w) A' (pyIter v) Q E ⟨hp, g, d, tk, os⟩ :=
      fun q => B.iter prog w _ _ ⟨hp, g, d, tk, os⟩ _ h1 q
    wp_walk using q1
    refine wpAny_stack_any fun st => wpAny_pure ?_
    split
    · rename_i c _ _ _ _ _
      cases (c == Value.type "enumerate")
      · wp_walk using q1
        exact ⟨_, rfl, h⟩
      · wp_walk using q1
        exact ⟨_, rfl, h⟩
    · wp_walk using q1
      exact ⟨_, rfl, h⟩
theorem dz_enum {prog : Program} {w : World} {A : Around} {E : Value → Shared → Prop} {s : Shared} {v : Value} {o : Obj} {H : Heap → Prop} {Q : Value → Shared → Prop} (B : Begins v o H) (h1 : H s.heap)
    (h : ∀ h', IsEnum h' (s.heap.objs.size + 1) s.heap.objs.size 0 .none → h'.get? s.heap.objs.size = some o → h'.objs.size = s.heap.objs.size + 2 →
      (∀ b o, s.heap.get? b = some o → h'.get? b = some o) → Q (.ref (s.heap.objs.size + 1)) { s with heap := h' }) :
    wpAny (model prog w) A (call (.type "enumerate") [v]) Q E s := by
  refine callType_new F.called_enumerate (by decide) (F.typeCall_enumerate_1 _) (F.newCall_enumerate_1 _) (fun obj => F.args_object_init_2 obj _) F.entry_enumerate_new
    (dz_enum_new1 B) ⟨h1, ?_⟩
  have hz : (s.heap.push o).objs.size = s.heap.objs.size + 1 := Heap.size_push ..
  show _ ∧ _
  rw [hz]
  have he : IsEnum ((s.heap.push o).push { cls := .type "enumerate", data := .fields #[.none, .bool false, .ref s.heap.objs.size, rawInt 0, .none, .none] }) (s.heap.objs.size + 1) s.heap.objs.size 0 .none := by
    have := Heap.get?_push_size (s.heap.push o) (o := { cls := .type "enumerate", data := .fields #[.none, .bool false, .ref s.heap.objs.size, rawInt 0, .none, .none] }) rfl
    rw [hz] at this; exact this
  refine ⟨⟨_, he, rfl⟩, h _ he (Heap.get?_push_of_some _ (Heap.get?_push_size _ B.free)) (by rw [Heap.size_push, hz]) fun b o x => Heap.get?_push_of_some _ (Heap.get?_push_of_some _ x)⟩
end PySem

namespace DL
open PySem PySem.Spec L2 PyProof.Rows

/-! ### a list (true) or a tuple that is walked beside others -/
structure Sd where
  l : Bool
  a : Addr
def Sd.at (K : PySem.W.Frag) (H : Hp) (d : Sd) (xs : List V) : Prop := match d.l with
  | true => SqL K H d.a xs
  | false => SqT K H d.a xs
def Sd.it (h : Heap) (i : Addr) (d : Sd) (k : Nat) : Prop := match d.l with
  | true => h.IsListIter i d.a k
  | false => h.IsTupleIter i d.a k
def Sd.is (h : Heap) (d : Sd) (its : Array Value) : Prop := match d.l with
  | true => h.IsList d.a its
  | false => h.IsTuple d.a its
def Sd.obj (d : Sd) : Obj := match d.l with
  | true => { cls := .type "list_iterator", data := .fields #[.ref d.a, .int 0 0] }
  | false => { cls := .type "tuple_iterator", data := .fields #[.ref d.a, .int 0 0] }
theorem Sd.draws {P : Program} {w : World} {A : Around} (hh : A.handled = none) {i : Addr} : ∀ {d : Sd} (ne : d.a ≠ i) (its : Array Value), Draws P w A i [i, d.a] its.size (fun j v => its[j]? = some v) (fun j h => d.it h i j ∧ d.is h its)
  | ⟨true, a⟩, ne, its => Draws.list hh i a ne its
  | ⟨false, a⟩, ne, its => Draws.tuple hh i a ne its
theorem Sd.begins : ∀ (d : Sd) (its : Array Value), Begins (.ref d.a) d.obj (fun h => d.is h its)
  | ⟨true, a⟩, its => begins_list a its
  | ⟨false, a⟩, its => begins_tuple a its
theorem Sd.start {h : Heap} {i : Addr} : ∀ {d : Sd}, h.get? i = some d.obj → d.it h i 0
  | ⟨true, a⟩, e => ⟨_, e, rfl, rfl⟩
  | ⟨false, a⟩, e => ⟨_, e, rfl, rfl⟩
theorem Sd.itObj {h : Heap} {i : Addr} {k : Nat} : ∀ {d : Sd}, d.it h i k → ∃ o, h.get? i = some o ∧ ∀ v, o.data ≠ .cell v
  | ⟨true, a⟩, ⟨o, e, c, dd⟩ => ⟨o, e, fun v z => by rw [dd] at z; cases z⟩
  | ⟨false, a⟩, ⟨o, e, c, dd⟩ => ⟨o, e, fun v z => by rw [dd] at z; cases z⟩
theorem Sd.itKeep {h h' : Heap} {i : Addr} {k : Nat} : ∀ {d : Sd}, d.it h i k → (∀ o, h.get? i = some o → h'.get? i = some o) → d.it h' i k
  | ⟨true, a⟩, st, e => Heap.IsListIter.at st e
  | ⟨false, a⟩, st, e => Heap.IsTupleIter.at st e
section
variable {X : Cx} {pins : List (Addr × Obj)} {σ : L2.St} {H : Hp} {s : Shared}
theorem Sd.vals (I : Inv X pins σ H s) : ∀ {d : Sd} {xs : List V}, d.at X.K H xs → ∃ its : List Value, Vals xs its ∧ d.is s.heap its.toArray ∧ d.a < s.heap.objs.size
  | ⟨true, a⟩, xs, h => let ⟨its, r, p, _⟩ := I.list h; ⟨its, r, p.isList, p.lt⟩
  | ⟨false, a⟩, xs, h => let ⟨its, r, p, _⟩ := I.tuple h; ⟨its, r, p, let ⟨_, ho, _⟩ := p; Heap.lt_size ho⟩
theorem Sd.inj (I : Inv X pins σ H s) : ∀ {d : Sd} {xs ys : List V}, d.at X.K H xs → d.at X.K H ys → xs = ys
  | ⟨true, a⟩, xs, ys, h, g => I.list_inj h g
  | ⟨false, a⟩, xs, ys, h, g => I.tuple_inj h g
end

theorem _root_.L2.Vals.get' {xs : List V} {us : List Value} {i : Nat} {u : Value} (h : Vals xs us) : us[i]? = some u → ∃ x, xs[i]? = some x ∧ RelV x u := by
  induction h generalizing i with
  | nil => intro e; simp at e
  | cons r t ih =>
    intro e
    cases i with
    | zero => simp at e; subst e; exact ⟨_, rfl, r⟩
    | succ i => simp at e ⊢; exact ih e
/-! ### what yields new tuples -/
theorem turn_T {P : Program} {w : World} {K : PySem.W.Frag} {elts : List Expr} {kk : Nat} {tpos : Pos} {J : It} {fp0 : List Addr} {it : Addr} {tn : Nat → Heap → Prop} {Y : Nat → Hp → List V → Prop}
    (mem : it ∈ fp0) (obj : ∀ i h, tn i h → ∀ b ∈ fp0, ∃ o, h.get? b = some o ∧ ∀ v, o.data ≠ .cell v)
    (keep : ∀ i h h', tn i h → (∀ b ∈ fp0, ∀ o, h.get? b = some o → h'.get? b = some o) → tn i h')
    (hJ : ∀ i H T vs, H T = none → Y i H vs → J.yld i H (.ref T) (upd H T (.tup vs)))
    (src : ∀ (X : Cx), X.prog = P → X.w = w → X.K = K → X.calm = true → ∀ (i : Nat) (pins : List (Addr × Obj)) (s : Shared) (σ : L2.St) (H : Hp), Inv X pins σ H s → tn i s.heap → (J.go i H ∨ J.stop i H) →
      ∃ fp wr n Pt St Mid, WalksT P w X.A it fp wr n Pt St Mid ∧ (∀ b ∈ wr, b ∈ fp0) ∧ St i s.heap ∧ (J.go i H → i < n) ∧ (J.stop i H → i = n) ∧ (∀ vals, i < n → Pt i vals → ∃ vs, Vals vs vals.toList ∧ vs.length ≤ sizeLine ∧ Y i H vs) ∧ ∀ h, St (i + 1) h → tn (i + 1) h)
    (self : ∀ (A : Around) (i : Nat) (s : Shared) (Q : Value → Shared → Prop) (E : Value → Shared → Prop), tn i s.heap → Q (.ref it) s → wpAny (model P w) A (pyIter (.ref it)) Q E s) :
    Turn P w K (.Tuple elts kk tpos) J fp0 it tn where
  mem := mem
  obj := obj
  keep := keep
  self := self
  item := by
    intro X hP hw hK hc i pins s σ H E I hf st hg
    obtain ⟨fp, wr, n, Pt, St, Mid, W, hwr, hst, hlt, _, hv, hn⟩ := src X hP hw hK hc i pins s σ H I st (.inl hg)
    refine W.item i s _ _ (hlt hg) hst fun T vals h' tk hp hT ht hm hk => ⟨_, rfl, W.go _ _ _ i T _ _ _ hm fun h'' hst' hk' => ?_⟩
    obtain ⟨vs, rv, hz, hy⟩ := hv vals (hlt hg) hp
    have hTn : T ∉ wr := W.apart i T h' hm
    obtain ⟨o, ho, hcl, nn, hd⟩ := id ht
    have ho2 := hk' T o hTn ho
    have hHT : H T = none := I.hok.fresh hT
    have new : ObjOk X.prog X.w (upd H T (.tup vs)) h'' T (.tup vs) := ⟨hz, vals.toList, rv, ⟨o, ho2, hcl, nn, by rw [hd]⟩⟩
    have I1 : Inv X pins σ (upd H T (.tup vs)) { s with heap := h'', toks := tk } :=
      I.turnedNew (t' := tk) (ch := fp0) (fun b ob hb e => hk' b ob (fun z => hb (hwr b z)) (hk b ob (fun z => hb (hwr b z)) e)) hf hT new
    refine ⟨.ref T, _, I1, rfl, hJ i H T vs hHT hy, hn _ hst', fun b hb => ?_⟩
    obtain ⟨ob, e, _⟩ := obj i s.heap st b hb
    have hlt : b < s.heap.objs.size := Heap.lt_size e
    rw [upd_ne (Nat.ne_of_lt (Nat.lt_of_lt_of_le hlt hT))]
    exact (hf b hb).1
  done := by
    intro X hP hw hK hc i pins s σ H E I hf st hg
    obtain ⟨fp, wr, n, Pt, St, Mid, W, hwr, hst, _, heq, _, _⟩ := src X hP hw hK hc i pins s σ H I st (.inr hg)
    have e := heq hg
    subst e
    exact W.done s _ _ hst fun h' tk hk => ⟨rfl, I.turnedL (t' := tk) (ch := fp0) (fun b ob hb e => hk b ob (fun z => hb (hwr b z)) e) hf⟩

/-! ### two -/
def ItZ2 (K : PySem.W.Frag) (d e : Sd) : It :=
  ⟨fun i H => ∃ xs ys : List V, d.at K H xs ∧ e.at K H ys ∧ i < xs.length ∧ i < ys.length,
    fun i H v H' => ∃ T x y, v = .ref T ∧ H T = none ∧ H' = upd H T (.tup [x, y]) ∧ (∀ xs, d.at K H xs → xs[i]? = some x) ∧ ∀ ys, e.at K H ys → ys[i]? = some y,
    fun i H => ∃ xs ys : List V, d.at K H xs ∧ e.at K H ys ∧ i = min xs.length ys.length⟩
theorem turn_z2 {P : Program} {w : World} {K : PySem.W.Frag} {elts : List Expr} {kk : Nat} {tpos : Pos} {d e : Sd} {z TI TO i1 i2 : Addr} (S : ZipSep2 z TI TO i1 i2 [i1, d.a] [i2, e.a]) (n1 : d.a ≠ i1) (n2 : e.a ≠ i2) :
    Turn P w K (.Tuple elts kk tpos) (ItZ2 K d e) [z, TI, TO, i1, i2] z (fun i h => IsZip h z TI TO .none ∧ IsTupOf2 h TI (.ref i1) (.ref i2) ∧ (∃ a1 a2, IsTupOf2 h TO a1 a2) ∧ d.it h i1 i ∧ e.it h i2 i) :=
  turn_T (J := ItZ2 K d e) (Y := fun i H vs => ∃ x y, vs = [x, y] ∧ (∀ xs, d.at K H xs → xs[i]? = some x) ∧ ∀ ys, e.at K H ys → ys[i]? = some y) (by simp) (fun i h st c hc => by
    obtain ⟨hz, hTI, ⟨x, y, hTO⟩, h1, h2⟩ := st
    have e' : c = z ∨ c = TI ∨ c = TO ∨ c = i1 ∨ c = i2 := by simpa using hc
    rcases e' with q | q | q | q | q
    · rw [q]; exact ⟨_, hz, fun v q => nomatch q⟩
    · rw [q]; exact ⟨_, hTI, fun v q => nomatch q⟩
    · rw [q]; exact ⟨_, hTO, fun v q => nomatch q⟩
    · rw [q]; exact Sd.itObj h1
    · rw [q]; exact Sd.itObj h2) (fun i h h' st k => by
    obtain ⟨hz, hTI, ⟨x, y, hTO⟩, h1, h2⟩ := st
    exact ⟨k z (by simp) _ hz, k TI (by simp) _ hTI, ⟨x, y, k TO (by simp) _ hTO⟩, Sd.itKeep h1 fun o q => k i1 (by simp) o q, Sd.itKeep h2 fun o q => k i2 (by simp) o q⟩)
    (fun i H T vs hT hy => by
      obtain ⟨x, y, rfl, h1, h2⟩ := hy
      exact ⟨T, x, y, rfl, hT, rfl, h1, h2⟩)
    (fun X hP hw hK hc i pins s σ H I st hg => by
      subst hP hw hK
      obtain ⟨hz, hTI, hTO, h1, h2⟩ := st
      obtain ⟨xs, ys, hx, hy⟩ : ∃ xs ys : List V, d.at X.K H xs ∧ e.at X.K H ys := by
        rcases hg with ⟨xs, ys, h1, h2, _⟩ | ⟨xs, ys, h1, h2, _⟩ <;> exact ⟨xs, ys, h1, h2⟩
      obtain ⟨its, rv, p1, _⟩ := Sd.vals I hx
      obtain ⟨its2, rv2, p2, _⟩ := Sd.vals I hy
      have hh := I.ok.hd hc
      have l1 := rv.length
      have l2 := rv2.length
      refine ⟨_, _, _, _, _, _, WalksT.zipD2 S (Sd.draws (show X.A.in1.handled = none from hh) n1 its.toArray) (Sd.draws (show X.A.in1.handled = none from hh) n2 its2.toArray), fun b hb => by simp at hb ⊢; rcases hb with h | h | h | h <;> simp [h], ⟨hz, hTI, hTO, ⟨h1, p1⟩, ⟨h2, p2⟩⟩, ?_, ?_, ?_, fun h st => ⟨st.1, st.2.1, st.2.2.1, st.2.2.2.1.1, st.2.2.2.2.1⟩⟩
      · rintro ⟨xs', ys', a1, a2, a3, a4⟩
        rw [Sd.inj I a1 hx] at a3
        rw [Sd.inj I a2 hy] at a4
        simp; omega
      · rintro ⟨xs', ys', a1, a2, a3⟩
        rw [Sd.inj I a1 hx, Sd.inj I a2 hy] at a3
        simp; omega
      · rintro vals hlt ⟨x1, x2, e1, e2, rfl⟩
        simp at hlt e1 e2
        obtain ⟨x, ex, rx⟩ := rv.get' e1
        obtain ⟨y, ey, ry⟩ := rv2.get' e2
        exact ⟨[x, y], .cons rx (.cons ry .nil), by show 2 ≤ sizeLine; decide, x, y, rfl, fun xs' h => by rw [Sd.inj I h hx]; exact ex, fun ys' h => by rw [Sd.inj I h hy]; exact ey⟩)
    (fun A i s Q E st h => wpAny_pyIter_zip st.1 h)

/-! ### three -/
def ItZ3 (K : PySem.W.Frag) (d e f : Sd) : It :=
  ⟨fun i H => ∃ xs ys zs : List V, d.at K H xs ∧ e.at K H ys ∧ f.at K H zs ∧ i < xs.length ∧ i < ys.length ∧ i < zs.length,
    fun i H v H' => ∃ T x y u, v = .ref T ∧ H T = none ∧ H' = upd H T (.tup [x, y, u]) ∧ (∀ xs, d.at K H xs → xs[i]? = some x) ∧ (∀ ys, e.at K H ys → ys[i]? = some y) ∧ ∀ zs, f.at K H zs → zs[i]? = some u,
    fun i H => ∃ xs ys zs : List V, d.at K H xs ∧ e.at K H ys ∧ f.at K H zs ∧ i = min (min xs.length ys.length) zs.length⟩
theorem turn_z3 {P : Program} {w : World} {K : PySem.W.Frag} {elts : List Expr} {kk : Nat} {tpos : Pos} {d e f : Sd} {z TI TO i1 i2 i3 : Addr} (S : ZipSep3 z TI TO i1 i2 i3 [i1, d.a] [i2, e.a] [i3, f.a]) (n1 : d.a ≠ i1) (n2 : e.a ≠ i2) (n3 : f.a ≠ i3) :
    Turn P w K (.Tuple elts kk tpos) (ItZ3 K d e f) [z, TI, TO, i1, i2, i3] z (fun i h => IsZip h z TI TO .none ∧ IsTupOf3 h TI (.ref i1) (.ref i2) (.ref i3) ∧ (∃ a1 a2 a3, IsTupOf3 h TO a1 a2 a3) ∧ d.it h i1 i ∧ e.it h i2 i ∧ f.it h i3 i) :=
  turn_T (J := ItZ3 K d e f) (Y := fun i H vs => ∃ x y u, vs = [x, y, u] ∧ (∀ xs, d.at K H xs → xs[i]? = some x) ∧ (∀ ys, e.at K H ys → ys[i]? = some y) ∧ ∀ zs, f.at K H zs → zs[i]? = some u) (by simp) (fun i h st c hc => by
    obtain ⟨hz, hTI, ⟨x, y, u, hTO⟩, h1, h2, h3⟩ := st
    have e' : c = z ∨ c = TI ∨ c = TO ∨ c = i1 ∨ c = i2 ∨ c = i3 := by simpa using hc
    rcases e' with q | q | q | q | q | q
    · rw [q]; exact ⟨_, hz, fun v q => nomatch q⟩
    · rw [q]; exact ⟨_, hTI, fun v q => nomatch q⟩
    · rw [q]; exact ⟨_, hTO, fun v q => nomatch q⟩
    · rw [q]; exact Sd.itObj h1
    · rw [q]; exact Sd.itObj h2
    · rw [q]; exact Sd.itObj h3) (fun i h h' st k => by
    obtain ⟨hz, hTI, ⟨x, y, u, hTO⟩, h1, h2, h3⟩ := st
    exact ⟨k z (by simp) _ hz, k TI (by simp) _ hTI, ⟨x, y, u, k TO (by simp) _ hTO⟩, Sd.itKeep h1 fun o q => k i1 (by simp) o q, Sd.itKeep h2 fun o q => k i2 (by simp) o q, Sd.itKeep h3 fun o q => k i3 (by simp) o q⟩)
    (fun i H T vs hT hy => by
      obtain ⟨x, y, u, rfl, h1, h2, h3⟩ := hy
      exact ⟨T, x, y, u, rfl, hT, rfl, h1, h2, h3⟩)
    (fun X hP hw hK hc i pins s σ H I st hg => by
      subst hP hw hK
      obtain ⟨hz, hTI, hTO, h1, h2, h3⟩ := st
      obtain ⟨xs, ys, zs, hx, hy, hu⟩ : ∃ xs ys zs : List V, d.at X.K H xs ∧ e.at X.K H ys ∧ f.at X.K H zs := by
        rcases hg with ⟨xs, ys, zs, h1, h2, h3, _⟩ | ⟨xs, ys, zs, h1, h2, h3, _⟩ <;> exact ⟨xs, ys, zs, h1, h2, h3⟩
      obtain ⟨its, rv, p1, _⟩ := Sd.vals I hx
      obtain ⟨its2, rv2, p2, _⟩ := Sd.vals I hy
      obtain ⟨its3, rv3, p3, _⟩ := Sd.vals I hu
      have hh := I.ok.hd hc
      have l1 := rv.length
      have l2 := rv2.length
      have l3 := rv3.length
      refine ⟨_, _, _, _, _, _, WalksT.zipD3 S (Sd.draws (show X.A.in1.handled = none from hh) n1 its.toArray) (Sd.draws (show X.A.in1.handled = none from hh) n2 its2.toArray) (Sd.draws (show X.A.in1.handled = none from hh) n3 its3.toArray), fun b hb => by simp at hb ⊢; rcases hb with h | h | h | h | h <;> simp [h], ⟨hz, hTI, hTO, ⟨h1, p1⟩, ⟨h2, p2⟩, ⟨h3, p3⟩⟩, ?_, ?_, ?_, fun h st => ⟨st.1, st.2.1, st.2.2.1, st.2.2.2.1.1, st.2.2.2.2.1.1, st.2.2.2.2.2.1⟩⟩
      · rintro ⟨xs', ys', zs', a1, a2, a5, a3, a4, a6⟩
        rw [Sd.inj I a1 hx] at a3
        rw [Sd.inj I a2 hy] at a4
        rw [Sd.inj I a5 hu] at a6
        simp; omega
      · rintro ⟨xs', ys', zs', a1, a2, a5, a3⟩
        rw [Sd.inj I a1 hx, Sd.inj I a2 hy, Sd.inj I a5 hu] at a3
        simp; omega
      · rintro vals hlt ⟨x1, x2, x3, e1, e2, e3, rfl⟩
        simp at hlt e1 e2 e3
        obtain ⟨x, ex, rx⟩ := rv.get' e1
        obtain ⟨y, ey, ry⟩ := rv2.get' e2
        obtain ⟨u, eu, ru⟩ := rv3.get' e3
        exact ⟨[x, y, u], .cons rx (.cons ry (.cons ru .nil)), by show 3 ≤ sizeLine; decide, x, y, u, rfl, fun xs' h => by rw [Sd.inj I h hx]; exact ex, fun ys' h => by rw [Sd.inj I h hy]; exact ey, fun zs' h => by rw [Sd.inj I h hu]; exact eu⟩)
    (fun A i s Q E st h => wpAny_pyIter_zip st.1 h)

/-! ### enumerate -/
def ItE (K : PySem.W.Frag) (d : Sd) : It :=
  ⟨fun i H => ∃ xs : List V, d.at K H xs ∧ i < xs.length,
    fun i H v H' => ∃ T x, v = .ref T ∧ H T = none ∧ H' = upd H T (.tup [.int (i : Nat), x]) ∧ ∀ xs, d.at K H xs → xs[i]? = some x,
    fun i H => ∃ xs : List V, d.at K H xs ∧ i = xs.length⟩
theorem turn_e {P : Program} {w : World} {K : PySem.W.Frag} {elts : List Expr} {kk : Nat} {tpos : Pos} {d : Sd} {e it : Addr} (hei : e ≠ it) (hea : e ≠ d.a) (n1 : d.a ≠ it) :
    Turn P w K (.Tuple elts kk tpos) (ItE K d) [e, it] e (fun i h => (∃ old, IsEnum h e it ((i : Nat) : Int) old) ∧ d.it h it i) :=
  turn_T (J := ItE K d) (Y := fun i H vs => ∃ x, vs = [.int (i : Nat), x] ∧ ∀ xs, d.at K H xs → xs[i]? = some x) (by simp) (fun i h st c hc => by
    obtain ⟨⟨old, he⟩, h1⟩ := st
    have e' : c = e ∨ c = it := by simpa using hc
    rcases e' with q | q
    · rw [q]; exact ⟨_, he, fun v q => nomatch q⟩
    · rw [q]; exact Sd.itObj h1) (fun i h h' st k => by
    obtain ⟨⟨old, he⟩, h1⟩ := st
    exact ⟨⟨old, k e (by simp) _ he⟩, Sd.itKeep h1 fun o q => k it (by simp) o q⟩)
    (fun i H T vs hT hy => by
      obtain ⟨x, rfl, h1⟩ := hy
      exact ⟨T, x, rfl, hT, rfl, h1⟩)
    (fun X hP hw hK hc i pins s σ H I st hg => by
      subst hP hw hK
      obtain ⟨he, h1⟩ := st
      obtain ⟨xs, hx⟩ : ∃ xs : List V, d.at X.K H xs := by
        rcases hg with ⟨xs, h1, _⟩ | ⟨xs, h1, _⟩ <;> exact ⟨xs, h1⟩
      obtain ⟨its, rv, p1, _⟩ := Sd.vals I hx
      have hh := I.ok.hd hc
      have l1 := rv.length
      have z0 : ∀ j : Nat, (0 : Int) + (j : Int) = (j : Int) := fun j => by omega
      refine ⟨_, _, _, _, _, _, WalksT.enumFrom 0 (Sd.draws (show X.A.in1.handled = none from hh) n1 its.toArray) e hei (by simp [hei, hea]) (by simp), fun b hb => hb, ⟨by rw [z0]; exact he, h1, p1⟩, ?_, ?_, ?_, fun h st => ⟨by have := st.1; rw [z0] at this; exact this, st.2.1⟩⟩
      · rintro ⟨xs', a1, a3⟩
        rw [Sd.inj I a1 hx] at a3
        simp; omega
      · rintro ⟨xs', a1, a3⟩
        rw [Sd.inj I a1 hx] at a3
        simp; omega
      · rintro vals hlt ⟨t, x1, e1, rfl⟩
        simp at hlt e1
        obtain ⟨x, ex, rx⟩ := rv.get' e1
        exact ⟨[.int (i : Nat), x], .cons ⟨t, by rw [z0]⟩ (.cons rx .nil), by show 2 ≤ sizeLine; decide, x, rfl, fun xs' h => by rw [Sd.inj I h hx]; exact ex⟩)
    (fun A i s Q E st h => let ⟨⟨_, he⟩, _⟩ := st; wpAny_pyIter_enum he h)

/-! ### the calls -/
def iZ2 (K : PySem.W.Frag) (ta : TA) : TI := fun σ H R => ta σ H fun vs H1 => ∃ d e xs ys, vs = [.ref d.a, .ref e.a] ∧ d.at K H1 xs ∧ e.at K H1 ys ∧ R (ItZ2 K d e) H1
def iZ3 (K : PySem.W.Frag) (ta : TA) : TI := fun σ H R => ta σ H fun vs H1 => ∃ d e f xs ys zs, vs = [.ref d.a, .ref e.a, .ref f.a] ∧ d.at K H1 xs ∧ e.at K H1 ys ∧ f.at K H1 zs ∧ R (ItZ3 K d e f) H1
def iEn (K : PySem.W.Frag) (ta : TA) : TI := fun σ H R => ta σ H fun vs H1 => ∃ d xs, vs = [.ref d.a] ∧ d.at K H1 xs ∧ R (ItE K d) H1
section
variable {X : Cx} {a b c : Expr} {ta : TA} {p pos tpos : Pos} {elts : List Expr} {kk : Nat}
theorem pi_z2 (hg : Gl X "zip") (hm : X.mg "zip" = none) (ha : PA X [a, b] ta)
    (hs : starEach [a, b] X.env = (false, eval a X.env) :: starEach [b] X.env := by rfl) (hpl : (backTo pos (starEach [b] X.env)).any (·.1) = false := by rfl) :
    PI X (.Tuple elts kk tpos) (.Call (.Name "zip" p) [a, b] [] pos) (iZ2 X.K ta) := by
  refine ⟨fun pins s σ H R I h => ?_⟩
  refine Call_ (ld_blt I hg hm PyProof.Rows.boot_zip (PyProof.Rows.callWith_type1 (thn (ha.run pos pins s σ H _ I h) fun us s1 ⟨vs, H1, I1, r1, q1⟩ => ?_) hs hpl))
  obtain ⟨d, e, xs, ys, ex, hx, hy, q⟩ := q1
  subst ex
  cases r1 with
  | cons r rr =>
    cases rr with
    | cons r' rr =>
      cases rr
      cases r
      cases r'
      obtain ⟨its, rv, p1, l1⟩ := Sd.vals I1 hx
      obtain ⟨its2, rv2, p2, l2⟩ := Sd.vals I1 hy
      refine zip_begins2 (Sd.begins d its.toArray) (Sd.begins e its2.toArray) p1 p2 fun h' hz hTI hTO h1 h2 hsz hk => wpAny_pyIter_zip hz ?_
      have I2 : Inv X pins σ H1 { s1 with heap := h' } := I1.kept (t' := s1.toks) hk
      refine ⟨s1.heap.objs.size + 4, [s1.heap.objs.size + 4, s1.heap.objs.size + 2, s1.heap.objs.size + 3, s1.heap.objs.size, s1.heap.objs.size + 1], _, _, H1, rfl, I2, turn_z2 (d := d) (e := e) (zip_sep2 (fp1 := [d.a]) (fp2 := [e.a]) (by simpa using l1) (by simpa using l2)) (Nat.ne_of_lt l1) (Nat.ne_of_lt (Nat.lt_of_lt_of_le l2 (Nat.le_add_right _ _))), ⟨hz, hTI, ⟨_, _, hTO⟩, Sd.start h1, Sd.start h2⟩, fun c hc => ?_, q⟩
      have hle : s1.heap.objs.size ≤ c := by
        simp at hc
        rcases hc with z | z | z | z | z <;> rw [z] <;> omega
      exact I1.fpOk hle (I1.hok.fresh hle)
theorem pi_z3 (hg : Gl X "zip") (hm : X.mg "zip" = none) (ha : PA X [a, b, c] ta)
    (hs : starEach [a, b, c] X.env = (false, eval a X.env) :: starEach [b, c] X.env := by rfl) (hpl : (backTo pos (starEach [b, c] X.env)).any (·.1) = false := by rfl) :
    PI X (.Tuple elts kk tpos) (.Call (.Name "zip" p) [a, b, c] [] pos) (iZ3 X.K ta) := by
  refine ⟨fun pins s σ H R I h => ?_⟩
  refine Call_ (ld_blt I hg hm PyProof.Rows.boot_zip (PyProof.Rows.callWith_type1 (thn (ha.run pos pins s σ H _ I h) fun us s1 ⟨vs, H1, I1, r1, q1⟩ => ?_) hs hpl))
  obtain ⟨d, e, f, xs, ys, zs, ex, hx, hy, hu, q⟩ := q1
  subst ex
  cases r1 with
  | cons r rr =>
    cases rr with
    | cons r' rr =>
      cases rr with
      | cons r'' rr =>
        cases rr
        cases r
        cases r'
        cases r''
        obtain ⟨its, rv, p1, l1⟩ := Sd.vals I1 hx
        obtain ⟨its2, rv2, p2, l2⟩ := Sd.vals I1 hy
        obtain ⟨its3, rv3, p3, l3⟩ := Sd.vals I1 hu
        refine zip_begins3 (Sd.begins d its.toArray) (Sd.begins e its2.toArray) (Sd.begins f its3.toArray) p1 p2 p3 fun h' hz hTI hTO h1 h2 h3 hsz hk => wpAny_pyIter_zip hz ?_
        have I2 : Inv X pins σ H1 { s1 with heap := h' } := I1.kept (t' := s1.toks) hk
        refine ⟨s1.heap.objs.size + 5, [s1.heap.objs.size + 5, s1.heap.objs.size + 3, s1.heap.objs.size + 4, s1.heap.objs.size, s1.heap.objs.size + 1, s1.heap.objs.size + 2], _, _, H1, rfl, I2, turn_z3 (d := d) (e := e) (f := f) (zip_sep3 (fp1 := [d.a]) (fp2 := [e.a]) (fp3 := [f.a]) (by simpa using l1) (by simpa using l2) (by simpa using l3)) (Nat.ne_of_lt l1) (Nat.ne_of_lt (Nat.lt_of_lt_of_le l2 (Nat.le_add_right _ _))) (Nat.ne_of_lt (Nat.lt_of_lt_of_le l3 (Nat.le_add_right _ _))), ⟨hz, hTI, ⟨_, _, _, hTO⟩, Sd.start h1, Sd.start h2, Sd.start h3⟩, fun c hc => ?_, q⟩
        have hle : s1.heap.objs.size ≤ c := by
          simp at hc
          rcases hc with z | z | z | z | z | z <;> rw [z] <;> omega
        exact I1.fpOk hle (I1.hok.fresh hle)
theorem pi_e (hg : Gl X "enumerate") (hm : X.mg "enumerate" = none) (ha : PA X [a] ta) (hs : starEach [a] X.env = [(false, eval a X.env)] := by rfl) :
    PI X (.Tuple elts kk tpos) (.Call (.Name "enumerate" p) [a] [] pos) (iEn X.K ta) := by
  refine ⟨fun pins s σ H R I h => ?_⟩
  refine Call_ (ld_blt I hg hm PyProof.Rows.boot_enumerate (PyProof.Rows.callWith_type1 (thn (ha.run pos pins s σ H _ I h) fun us s1 ⟨vs, H1, I1, r1, q1⟩ => ?_) hs rfl))
  obtain ⟨d, xs, ex, hx, q⟩ := q1
  subst ex
  cases r1 with
  | cons r rr =>
    cases rr
    cases r
    obtain ⟨its, rv, p1, l1⟩ := Sd.vals I1 hx
    refine dz_enum (Sd.begins d its.toArray) p1 fun h' he h1 hsz hk => wpAny_pyIter_enum he ?_
    have I2 : Inv X pins σ H1 { s1 with heap := h' } := I1.kept (t' := s1.toks) hk
    refine ⟨s1.heap.objs.size + 1, [s1.heap.objs.size + 1, s1.heap.objs.size], _, _, H1, rfl, I2, turn_e (d := d) (Nat.succ_ne_self _) (Nat.ne_of_gt (Nat.lt_succ_of_lt l1)) (Nat.ne_of_lt l1), ⟨⟨.none, he⟩, Sd.start h1⟩, fun c hc => ?_, q⟩
    have hle : s1.heap.objs.size ≤ c := by
      simp at hc
      rcases hc with z | z <;> rw [z] <;> omega
    exact I1.fpOk hle (I1.hok.fresh hle)
end

/-! ### over data -/
def zip2D : List D → List D → List D
  | x :: xs, y :: ys => .tup [x, y] :: zip2D xs ys
  | _, _ => []
def zip3D : List D → List D → List D → List D
  | x :: xs, y :: ys, z :: zs => .tup [x, y, z] :: zip3D xs ys zs
  | _, _, _ => []
def enumD : Nat → List D → List D
  | i, x :: xs => .tup [.int (i : Int), x] :: enumD (i + 1) xs
  | _, [] => []
theorem zip2D_len : ∀ {xs ys : List D}, (zip2D xs ys).length = min xs.length ys.length
  | [], _ => by simp [zip2D]
  | _ :: _, [] => by simp [zip2D]
  | x :: xs, y :: ys => by simp [zip2D, zip2D_len (xs := xs) (ys := ys)]
theorem zip3D_len : ∀ {xs ys zs : List D}, (zip3D xs ys zs).length = min (min xs.length ys.length) zs.length
  | [], _, _ => by simp [zip3D]
  | _ :: _, [], _ => by simp [zip3D]
  | _ :: _, _ :: _, [] => by simp [zip3D]
  | x :: xs, y :: ys, z :: zs => by simp [zip3D, zip3D_len (xs := xs) (ys := ys) (zs := zs)]
theorem enumD_len : ∀ {xs : List D} {i : Nat}, (enumD i xs).length = xs.length
  | [], _ => rfl
  | x :: xs, i => by simp [enumD, enumD_len (xs := xs)]
theorem zip2D_get : ∀ {xs ys : List D} {i : Nat} {x y : D}, xs[i]? = some x → ys[i]? = some y → (zip2D xs ys)[i]? = some (.tup [x, y])
  | [], _, _, _, _, h, _ => by simp at h
  | _ :: _, [], _, _, _, _, h => by simp at h
  | a :: xs, b :: ys, 0, x, y, h, g => by simp at h g; subst h g; rfl
  | a :: xs, b :: ys, i + 1, x, y, h, g => by simp at h g; simp only [zip2D, List.getElem?_cons_succ]; exact zip2D_get h g
theorem zip3D_get : ∀ {xs ys zs : List D} {i : Nat} {x y z : D}, xs[i]? = some x → ys[i]? = some y → zs[i]? = some z → (zip3D xs ys zs)[i]? = some (.tup [x, y, z])
  | [], _, _, _, _, _, _, h, _, _ => by simp at h
  | _ :: _, [], _, _, _, _, _, _, h, _ => by simp at h
  | _ :: _, _ :: _, [], _, _, _, _, _, _, h => by simp at h
  | a :: xs, b :: ys, c :: zs, 0, x, y, z, h, g, k => by simp at h g k; subst h g k; rfl
  | a :: xs, b :: ys, c :: zs, i + 1, x, y, z, h, g, k => by simp at h g k; simp only [zip3D, List.getElem?_cons_succ]; exact zip3D_get h g k
theorem enumD_get : ∀ {xs : List D} {i k : Nat} {x : D}, xs[i]? = some x → (enumD k xs)[i]? = some (.tup [.int ((k + i : Nat) : Int), x])
  | [], _, _, _, h => by simp at h
  | a :: xs, 0, k, x, h => by simp at h; subst h; rfl
  | a :: xs, i + 1, k, x, h => by
    simp at h
    simp only [enumD, List.getElem?_cons_succ]
    rw [enumD_get h, show k + 1 + i = k + (i + 1) by omega]
theorem immL_at : ∀ {l : List D} {i : Nat} {d : D}, D.immL l = true → l[i]? = some d → d.imm = true := fun h e => D.immL_mem.mp h _ (List.mem_of_getElem? e)
/-- a list or a tuple of the data, as a side -/
theorem Rep.side {K : Ct} {B : Addr → Prop} {H : Hp} {v : V} {d : D} {Q : List D → Prop} (r : Rep K B H v d) (h : dS Q d) : ∃ sd xs ds, v = .ref sd.a ∧ (∀ H2, Keeps B H H2 → Sd.at K.K H2 sd xs) ∧ Reps K B H xs ds ∧ xs.length ≤ sizeLine ∧ Q ds := by
  cases d with
  | lst ds =>
    obtain ⟨a, vs, rfl, ba, rd, hz, rs⟩ := r.sqL
    exact ⟨⟨true, a⟩, vs, ds, rfl, fun H2 k => .inl (.inl (k _ _ ba rd)), rs, hz, h⟩
  | tup ds =>
    obtain ⟨a, vs, rfl, sq, hz, rs⟩ := Reps.sqT r
    exact ⟨⟨false, a⟩, vs, ds, rfl, sq, rs, hz, h⟩
  | _ => exact h.elim
section
variable {X : Cx} {a c f : Expr} {t : TA} {rs : RAs} {p pos tpos : Pos} {elts : List Expr} {kk : Nat} {b : Bool}
def riZ2 (rs : RAs) : RI := fun ρ Q => rs ρ fun ds => match ds with
  | [x, y] => dS (fun xs => dS (fun ys => (D.immL xs = true ∧ D.immL ys = true) ∧ Q (zip2D xs ys)) y) x
  | _ => False
def riZ3 (rs : RAs) : RI := fun ρ Q => rs ρ fun ds => match ds with
  | [x, y, z] => dS (fun xs => dS (fun ys => dS (fun zs => (D.immL xs = true ∧ D.immL ys = true ∧ D.immL zs = true) ∧ Q (zip3D xs ys zs)) z) y) x
  | _ => False
def riE (rs : RAs) : RI := fun ρ Q => rs ρ fun ds => match ds with
  | [x] => dS (fun xs => D.immL xs = true ∧ Q (enumD 0 xs)) x
  | _ => False
theorem walk_z2 {K : PySem.W.Frag} {d e : Sd} {xs ys : List V} : Walk (ItZ2 K d e) (min xs.length ys.length) (fun H => d.at K H xs ∧ e.at K H ys) (fun i H v H' => ∃ T x y, v = .ref T ∧ H T = none ∧ H' = upd H T (.tup [x, y]) ∧ xs[i]? = some x ∧ ys[i]? = some y) :=
  ⟨fun i H hi h => ⟨xs, ys, h.1, h.2, by omega, by omega⟩, fun H h => ⟨xs, ys, h.1, h.2, rfl⟩, fun i H x H' hi h y => let ⟨T, x, u, e, n, e2, h1, h2⟩ := y; ⟨T, x, u, e, n, e2, h1 xs h.1, h2 ys h.2⟩⟩
theorem walk_z3 {K : PySem.W.Frag} {d e f : Sd} {xs ys zs : List V} : Walk (ItZ3 K d e f) (min (min xs.length ys.length) zs.length) (fun H => d.at K H xs ∧ e.at K H ys ∧ f.at K H zs) (fun i H v H' => ∃ T x y z, v = .ref T ∧ H T = none ∧ H' = upd H T (.tup [x, y, z]) ∧ xs[i]? = some x ∧ ys[i]? = some y ∧ zs[i]? = some z) :=
  ⟨fun i H hi h => ⟨xs, ys, zs, h.1, h.2.1, h.2.2, by omega, by omega, by omega⟩, fun H h => ⟨xs, ys, zs, h.1, h.2.1, h.2.2, rfl⟩, fun i H x H' hi h y => let ⟨T, x, u, z, e, n, e2, h1, h2, h3⟩ := y; ⟨T, x, u, z, e, n, e2, h1 xs h.1, h2 ys h.2.1, h3 zs h.2.2⟩⟩
theorem walk_e {K : PySem.W.Frag} {d : Sd} {xs : List V} : Walk (ItE K d) xs.length (fun H => d.at K H xs) (fun i H v H' => ∃ T x, v = .ref T ∧ H T = none ∧ H' = upd H T (.tup [.int (i : Nat), x]) ∧ xs[i]? = some x) :=
  ⟨fun i H hi h => ⟨xs, h, hi⟩, fun H h => ⟨xs, h, rfl⟩, fun i H x H' hi h y => let ⟨T, x, e, n, e2, h1⟩ := y; ⟨T, x, e, n, e2, h1 xs h⟩⟩
theorem i_z2 (hm : X.mg "zip" = none) (ha : DA X b [a, c] t rs) (hg : Gl X "zip" := by rfl)
    (hs : starEach [a, c] X.env = (false, eval a X.env) :: starEach [c] X.env := by rfl) (hpl : (backTo pos (starEach [c] X.env)).any (·.1) = false := by rfl) :
    DI X b (.Tuple elts kk tpos) (.Call (.Name "zip" p) [a, c] [] pos) (iZ2 X.K t) (riZ2 rs) :=
  ⟨pi_z2 hg hm ha.pa hs hpl, fun Φ own ρ σ H Q Qv R hr hq => ha.rd Φ own ρ σ H _ _ R hr fun vs H1 ds R1 g1 rp hl q => by
    match ds, vs, rp, q with
    | [x, y], _, .cons r1 (.cons r2 .nil), q =>
      obtain ⟨d, xs, dx, rfl, ax, rx, zx, q⟩ := r1.side q
      obtain ⟨e, ys, dy, rfl, ay, ry, zy, q⟩ := r2.side q
      refine ⟨d, e, xs, ys, rfl, ax _ fun _ _ _ e => e, ay _ fun _ _ _ e => e, hq _ H1 _ R1 g1 ?_ q.2⟩
      have hl : (zip2D dx dy).length = min xs.length ys.length := by rw [zip2D_len, rx.length, ry.length]
      refine ⟨fun H => d.at X.K H xs ∧ e.at X.K H ys, _, by omega, by rw [hl]; exact walk_z2, fun H k => ⟨ax H k, ay H k⟩, fun B' i H x H' hB hm hk hi y => ?_⟩
      obtain ⟨T, x, y, rfl, hT, rfl, e1, e2⟩ := y
      obtain ⟨d1, ed1, rp1⟩ := rx.get e1
      obtain ⟨d2, ed2, rp2⟩ := ry.get e2
      have s : Same H (upd H T (.tup [x, y])) := same_new hT
      exact ⟨s, _, zip2D_get ed1 ed2, .tup (fresh_of hm T hT) (.inl upd_same) (by show 2 ≤ sizeLine; decide) (.cons (((rp1.mono hk).toImm (immL_at q.1.1 ed1) hm).mono (same_keeps s)) (.cons (((rp2.mono hk).toImm (immL_at q.1.2 ed2) hm).mono (same_keeps s)) .nil))⟩⟩
theorem i_z3 (hm : X.mg "zip" = none) (ha : DA X b [a, c, f] t rs) (hg : Gl X "zip" := by rfl)
    (hs : starEach [a, c, f] X.env = (false, eval a X.env) :: starEach [c, f] X.env := by rfl) (hpl : (backTo pos (starEach [c, f] X.env)).any (·.1) = false := by rfl) :
    DI X b (.Tuple elts kk tpos) (.Call (.Name "zip" p) [a, c, f] [] pos) (iZ3 X.K t) (riZ3 rs) :=
  ⟨pi_z3 hg hm ha.pa hs hpl, fun Φ own ρ σ H Q Qv R hr hq => ha.rd Φ own ρ σ H _ _ R hr fun vs H1 ds R1 g1 rp hl q => by
    match ds, vs, rp, q with
    | [x, y, z], _, .cons r1 (.cons r2 (.cons r3 .nil)), q =>
      obtain ⟨d, xs, dx, rfl, ax, rx, zx, q⟩ := r1.side q
      obtain ⟨e, ys, dy, rfl, ay, ry, zy, q⟩ := r2.side q
      obtain ⟨f, zs, dz, rfl, az, rz, zz, q⟩ := r3.side q
      refine ⟨d, e, f, xs, ys, zs, rfl, ax _ fun _ _ _ e => e, ay _ fun _ _ _ e => e, az _ fun _ _ _ e => e, hq _ H1 _ R1 g1 ?_ q.2⟩
      have hl : (zip3D dx dy dz).length = min (min xs.length ys.length) zs.length := by rw [zip3D_len, rx.length, ry.length, rz.length]
      refine ⟨fun H => d.at X.K H xs ∧ e.at X.K H ys ∧ f.at X.K H zs, _, by omega, by rw [hl]; exact walk_z3, fun H k => ⟨ax H k, ay H k, az H k⟩, fun B' i H x H' hB hm hk hi y => ?_⟩
      obtain ⟨T, x, y, z, rfl, hT, rfl, e1, e2, e3⟩ := y
      obtain ⟨d1, ed1, rp1⟩ := rx.get e1
      obtain ⟨d2, ed2, rp2⟩ := ry.get e2
      obtain ⟨d3, ed3, rp3⟩ := rz.get e3
      have s : Same H (upd H T (.tup [x, y, z])) := same_new hT
      exact ⟨s, _, zip3D_get ed1 ed2 ed3, .tup (fresh_of hm T hT) (.inl upd_same) (by show 3 ≤ sizeLine; decide) (.cons (((rp1.mono hk).toImm (immL_at q.1.1 ed1) hm).mono (same_keeps s)) (.cons (((rp2.mono hk).toImm (immL_at q.1.2.1 ed2) hm).mono (same_keeps s)) (.cons (((rp3.mono hk).toImm (immL_at q.1.2.2 ed3) hm).mono (same_keeps s)) .nil)))⟩⟩
theorem i_e (hm : X.mg "enumerate" = none) (ha : DA X b [a] t rs) (hg : Gl X "enumerate" := by rfl) (hs : starEach [a] X.env = [(false, eval a X.env)] := by rfl) :
    DI X b (.Tuple elts kk tpos) (.Call (.Name "enumerate" p) [a] [] pos) (iEn X.K t) (riE rs) :=
  ⟨pi_e hg hm ha.pa hs, fun Φ own ρ σ H Q Qv R hr hq => ha.rd Φ own ρ σ H _ _ R hr fun vs H1 ds R1 g1 rp hl q => by
    match ds, vs, rp, q with
    | [x], _, .cons r1 .nil, q =>
      obtain ⟨d, xs, dx, rfl, ax, rx, zx, q⟩ := r1.side q
      refine ⟨d, xs, rfl, ax _ fun _ _ _ e => e, hq _ H1 _ R1 g1 ?_ q.2⟩
      have hl : (enumD 0 dx).length = xs.length := by rw [enumD_len, rx.length]
      refine ⟨_, _, by omega, by rw [hl]; exact walk_e, fun H k => ax H k, fun B' i H x H' hB hm hk hi y => ?_⟩
      obtain ⟨T, x, rfl, hT, rfl, e1⟩ := y
      obtain ⟨d1, ed1, rp1⟩ := rx.get e1
      have s : Same H (upd H T (.tup [.int (i : Nat), x])) := same_new hT
      have hz : (0 + i : Nat) = i := by omega
      exact ⟨s, _, enumD_get ed1, .tup (fresh_of hm T hT) (.inl upd_same) (by show 2 ≤ sizeLine; decide) (.cons (by rw [hz]; exact .int _) (.cons (((rp1.mono hk).toImm (immL_at q.1 ed1) hm).mono (same_keeps s)) .nil))⟩⟩
end
end DL
end
section
set_option maxRecDepth 100000
/-! DMore: max, stars, extend, x[::-1], list(x), a tuple times an int, a list unpacked. -/
namespace PySem
open PySem PyProof.Rows
section
variable {prog : Program} {w : World} {A : Around} {E : Value → Shared → Prop} {s : Shared}
theorem dm_draw {it t : Addr} {items : Array Value} (hne : t ≠ it) : ∀ (n i : Nat) (s : Shared) (Q : List Value → Shared → Prop), s.heap.IsListIter it t i → s.heap.IsList t items → i + n ≤ items.size →
    (∀ h', h'.IsListIter it t (i + n) → Heap.SameBut it s.heap h' → Q ((items.toList.drop i).take n) { s with heap := h' }) → wpAny (model prog w) A (draw (.ref it) n) Q E s
  | 0, i, s, Q, hit, _, _, hQ => by
    show wpAny _ _ (pure []) Q E s
    exact wpAny_pure (by simpa using hQ s.heap hit (Heap.SameBut.refl ..))
  | n + 1, i, s, Q, hit, ht, hle, hQ => by
    have hlt : i < items.size := by omega
    show wpAny _ _ (pyNext (.ref it) >>= _) Q E s
    refine wpAny_bind (wpAny_pyNext_list_item hit ht (x := items[i]) (by simp [hlt]) fun h₁ hit₁ hs₁ => ?_)
    refine wpAny_bind (wpAny_holding (dm_draw hne n (i + 1) _ _ hit₁ (ht.extBut hs₁.extBut hne) (by omega) fun h₂ hit₂ hs₂ => wpAny_pure ?_))
    have hd : items.toList.drop i = items[i] :: items.toList.drop (i + 1) := by simp [List.drop_eq_getElem_cons, hlt]
    have := hQ h₂ (by rw [show i + (n + 1) = i + 1 + n by omega]; exact hit₂) (hs₁.trans hs₂)
    rw [hd, List.take_succ_cons] at this
    exact this
theorem dm_unpackItems {t : Addr} {items : Array Value} {Q : List Value → Shared → Prop} (hh : A.handled = none) (ht : s.heap.IsList t items)
    (hQ : ∀ h', Heap.ExtBut s.heap.objs.size s.heap h' → Q items.toList { s with heap := h' }) : wpAny (model prog w) A (unpackItems (.ref t) items.size none) Q E s := by
  have hlt : t ≠ s.heap.objs.size := by obtain ⟨o, ho, _⟩ := ht; exact Nat.ne_of_lt (Heap.lt_size ho)
  unfold unpackItems
  refine wpAny_bind ?_
  · unfold notIterableAtAll
    refine wpAny_bind (wpAny_specialOf (by obtain ⟨o, ho, hc, _⟩ := ht; exact ⟨o, ho, hc⟩) PySem.F.slot_list_iter.lookup ?_)
    refine wpAny_pure ?_
    simp only [Bool.false_eq_true, if_false]
    refine wpAny_bind (wpAny_holding (wpAny_pyIter_list ht ?_))
    refine wpAny_bind (wpAny_holding (dm_draw hlt items.size 0 _ _ ⟨_, Heap.get?_push_size _ rfl, rfl, rfl⟩ (ht.push _) (by omega) fun h₁ hit₁ hs₁ => ?_))
    have hall : List.take items.size (List.drop 0 items.toList) = items.toList := by
      rw [List.drop_zero]; exact List.take_of_length_le (by simp)
    rw [hall]
    rw [if_neg (by simp)]
    have ht₁ : h₁.IsList t items := (ht.push _).extBut hs₁.extBut hlt
    refine wpAny_bind (wpAny_holding (wpAny_pyNext_list_end hh hit₁ ht₁ (by simp) fun h₂ he₂ => ?_))
    simp only [Option.isSome_none, Bool.false_eq_true, if_false]
    refine wpAny_pure (hQ h₂ fun b o hb e => he₂ b o hb (hs₁.extBut b o hb (Heap.get?_push_of_some _ e)))
theorem dm_assign {env : Env} {elts : List Expr} {x1} {pos : Pos} {t : Addr} {items : Array Value} {Q : Unit → Shared → Prop} (hh : A.handled = none) (ht : s.heap.IsList t items)
    (hn : (assignEach elts env).length = items.size) (hstar : (assignEach elts env).findIdx? (·.1) = none)
    (h : ∀ h', Heap.ExtBut s.heap.objs.size s.heap h' → wpAny (model prog w) A (assignInOrder ((assignEach elts env).map (·.2)) items.toList) Q E { s with heap := h' }) :
    wpAny (model prog w) A (assign (.Tuple elts x1 pos) env (.ref t)) Q E s := by
  rw [assign_Tuple]
  refine wpAny_bind (wpAny_standAt ?_)
  unfold unpack
  rw [hn, hstar]
  exact wpAny_bind (wpAny_holding (dm_unpackItems hh ht h))
end
/-- a tuple times 1: itself -/
theorem dm_tuple_mul1 (l : Addr) (items : Array Value) (n : Nat) (dd : Option Addr) (sl : Array (Option Value)) (u : Tok) :
    Meets (Builtin.«tuple.__mul__» ⟨[.ref l, .int 1 u], []⟩) (fun _ R s => s.heap.get? l = some { cls := .type "tuple", dict := dd, data := .seq items n, slots := sl } ∧ R (.ok (.ret (Value.ref l))) s) :=
  .of_wp fun prog w A R s h => by
    obtain ⟨hp, g, d, tk, os⟩ := s
    obtain ⟨hl, h⟩ := h
    have f1 := AutoSeq1.idx_int
    have c0 : (decide ((1 : Int) < -(2 ^ 63)) || decide ((1 : Int) ≥ 2 ^ 63)) = false := by decide
    have c1 : (items.isEmpty || (1 : Int) == 1) = true := by simp
    wp_walk using AutoSeq1.wpAny_loadPart' hl
    exact ⟨_, rfl, h⟩
end PySem

namespace DL
open PySem PySem.Spec L2 PyProof.Rows

section
variable {X : Cx} {e o : Expr} {es : List Expr} {te to : TE} {re ro : RE} {pos : Pos} {b : Bool} {t : TA} {rs : RAs}
/-! ### a tuple times an int -/
def rRep1 (K : PySem.W.Frag) : R2 := fun x y H Q => ∃ l xs, x = .ref l ∧ y = .int 1 ∧ SqT K H l xs ∧ Q (.ref l) H
theorem op_rep1 : OpR X (binaryOp .Mult) (rRep1 X.K) := by
  intro pins s σ H x y v u Q I rx ry h
  obtain ⟨l, xs, rfl, rfl, hT, q⟩ := h
  cases rx
  obtain ⟨t, rfl⟩ := ry
  obtain ⟨its, r, ⟨⟨cls, dd, data, sl⟩, ho, hc, n, hd⟩, hs⟩ := I.tuple hT
  simp only at hc hd
  subst hc hd
  exact wpAny_binaryOp_repeat_ref (T := "tuple") (U := "int") (by decide) ⟨_, ho, rfl⟩ (fun s' => typeIs_int s' 1 t) noFill_tuple_mul PySem.F.fills_int_mul PySem.F.slot_int_rmul repeat_tuple PySem.F.slot_int_index.lookup
    (call_meets PySem.F.slot_int_rmul (typeIs_int s 1 t) PySem.F.entry_int_rmul (PySem.F.args_int_rmul_2 _ _) (int_rmul_tuple 1 t l its.toArray n dd sl)
      ⟨ho, rfl, ⟨_, ho, rfl⟩, call_meets PySem.F.slot_tuple_mul ⟨_, ho, rfl⟩ PySem.F.entry_tuple_mul (PySem.F.args_tuple_mul_2 _ _) (dm_tuple_mul1 l its.toArray n dd sl t) ⟨ho, ⟨.ref l, H, I, rfl, q⟩⟩⟩)
/-- one factor is short, or both are not too long -/
def CMulA (i j : Int) : Prop := CMul i j ∨ CMulW i j
theorem op_mulC : OpR X (binaryOp .Mult) (rI CMulA fun i j => .int (i * j)) := opI fun _ _ _ _ _ _ _ hc q => PyProof.Rows.mul_int q (hc.elim (fun h => h.ok) fun h => h.ok)
def oMul : RO := fun x y Q => match x, y with
  | .int i, .int j => CMulA i j ∧ Q (.int (i * j))
  | .tup xs, .int k => (xs ≠ [] ∧ 1 ≤ k ∧ k ≤ 1000 ∧ xs.length ≤ 1000) ∧ Q (.tup (List.replicate k.toNat xs).flatten)
  | _, _ => False
def rMulA (K : PySem.W.Frag) : R2 := fun x y H Q => (rI CMulA fun i j => .int (i * j)) x y H Q ∨ (rRep1 K x y H Q ∨ rRepT K x y H Q)
theorem op_mulA : OpR X (binaryOp .Mult) (rMulA X.K) := op_mulC.or (op_rep1.or op_repT)
theorem Reps.rep {K : Ct} {B : Addr → Prop} {H : Hp} {vs : List V} {ds : List D} (h : Reps K B H vs ds) : ∀ n : Nat, Reps K B H (List.replicate n vs).flatten (List.replicate n ds).flatten
  | 0 => .nil
  | n + 1 => by
    rw [List.replicate_succ, List.replicate_succ, List.flatten_cons, List.flatten_cons]
    exact h.append (Reps.rep h n)
theorem d_mulA {K : Ct} : DOp K (rMulA K.K) oMul := fun B x y H d1 d2 Q Qv fr r1 r2 hq k => by
  match d1, d2, r1, r2, hq with
  | .int i, .int j, r1, r2, hq =>
    rw [r1.isInt, r2.isInt]
    exact .inl ⟨i, j, rfl, rfl, hq.1, k _ H _ (fun _ _ e => e) (.int _) hq.2⟩
  | .tup xs, .int j, r1, r2, hq =>
    obtain ⟨⟨hn, h1, h2, h3⟩, q⟩ := hq
    rw [r2.isInt]
    by_cases e : j = 1
    · subst e
      have r := r1
      obtain ⟨a, vs, rfl, sq, hz, rs⟩ := r1.sqT
      refine .inr (.inl ⟨a, vs, rfl, rfl, sq, k _ H _ (fun _ _ e => e) r ?_⟩)
      simpa using q
    · obtain ⟨a, vs, rfl, sq, hz, rs⟩ := r1.sqT
      have hl := rs.length
      refine .inr (.inr ⟨a, j, vs, rfl, rfl, sq, fun z => hn ?_, by omega, h2, by omega, fun p hp => ?_⟩)
      · rw [z] at hl; exact List.eq_nil_of_length_eq_zero hl.symm
      · have s := same_new (o := .tup (List.replicate j.toNat vs).flatten) hp
        refine k _ _ _ s (.tup (fr p hp) (.inl upd_same) ?_ ((rs.rep _).mono (same_keeps s))) q
        rw [PyProof.Rows.lm_len_rep_flat, sizeLine_eq]
        have : j.toNat * vs.length ≤ 1000 * 1000 := Nat.mul_le_mul (by omega) (by omega)
        omega

/-! ### a, b = a list or a tuple -/
def gSeq (K : PySem.W.Frag) (n : Nat) (t : TGs) : TG := fun v σ H Q => ∃ a xs, v = .ref a ∧ (SqT K H a xs ∨ SqL K H a xs) ∧ xs.length = n ∧ t xs σ H Q
theorem pg_seq {k : Nat} {t : TGs} {n : Nat} (hc : X.calm = true) (h : PGs X es t)
    (hn : (assignEach es X.env).length = n := by rfl) (hst : (assignEach es X.env).findIdx? (·.1) = none := by rfl) : PG X (.Tuple es k pos) (gSeq X.K n t) := by
  refine ⟨fun pins s σ H v u Q I r hw => ?_⟩
  obtain ⟨a, xs, e1, hq, hl, hw⟩ := hw
  subst e1
  cases r
  rcases hq with hq | hq
  · obtain ⟨its, rv, ht, hz⟩ := I.tuple hq
    refine assign_Tuple_tuple (I.ok.hd hc) ht (by simp [hn, ← hl, rv.length]) hst fun h' hx => ?_
    have I1 : Inv X pins σ H { s with heap := h' } := I.kept (t' := s.toks) fun b o e => hx b o (Nat.ne_of_lt (Heap.lt_size e)) e
    exact h.run pins _ σ H xs _ Q I1 (by simpa using rv) hw
  · obtain ⟨its, rv, ht, hz⟩ := I.list hq
    refine dm_assign (I.ok.hd hc) ht.isList (by simp [hn, ← hl, rv.length]) hst fun h' hx => ?_
    have I1 : Inv X pins σ H { s with heap := h' } := I.kept (t' := s.toks) fun b o e => hx b o (Nat.ne_of_lt (Heap.lt_size e)) e
    exact h.run pins _ σ H xs _ Q I1 (by simpa using rv) hw
def rgSeq (n : Nat) (g : RGs) : RG := fun d ρ Q => match d with
  | .tup ds => ds.length = n ∧ g ds ρ Q
  | .lst ds => ds.length = n ∧ g ds ρ Q
  | _ => False
theorem g_seq {k n : Nat} {g : TGs} {is : List Nat} {gd : RGs} (hc : X.calm = true) (h : DGs X es g is gd)
    (hn : (assignEach es X.env).length = n := by rfl) (hst : (assignEach es X.env).findIdx? (·.1) = none := by rfl) : DG X (.Tuple es k pos) (gSeq X.K n g) is (rgSeq n gd) :=
  ⟨pg_seq hc h.pg hn hst, fun Φ own ρ σ H x d Q Qv R rp h' k => by
    cases d with
    | tup ds =>
      obtain ⟨a, vs, e, sq, _, rs⟩ := rp.sqT
      exact ⟨a, vs, e, .inl sq, by rw [rs.length]; exact h'.1, h.rd Φ own ρ σ H vs ds Q Qv R rs h'.2 k⟩
    | lst ds =>
      obtain ⟨a, vs, e, ba, rd, _, rs⟩ := rp.sqL
      exact ⟨a, vs, e, .inr (.inl (.inl rd)), by rw [rs.length]; exact h'.1, h.rd Φ own ρ σ H vs ds Q Qv R rs h'.2 k⟩
    | _ => exact h'.elim⟩

/-! ### displays with stars -/
def DAsr (K : Ct) (b : Bool) (t : TA) (r : RAs) : Prop := ∀ (Φ : Frm) (own : Ow) (ρ : En) (σ : L2.St) (H : Hp) (Q : List D → Prop) (Qv : List V → Hp → Prop), Rel K Φ own ρ σ H → r ρ Q →
  (∀ vs H' ds, Rel K Φ own ρ σ H' → Grow Φ H H' → Reps K (Φ.B own b) H' vs ds → Q ds → Qv vs H') → t σ H Qv
structure DAs (X : Cx) (b : Bool) (es : List Expr) (t : TA) (r : RAs) : Prop where
  pa : PA X es t
  rd : DAsr X.ct b t r
theorem as_nil : DAs X b [] tNil raNil := ⟨pa_nil, fun Φ own ρ σ H Q Qv R hr hq => hq [] H [] R Grow.refl .nil hr⟩
theorem as_cons (ha : DE X b e te re) (hs : DAs X b es t rs) (h : starEach (e :: es) X.env = (false, eval e X.env) :: starEach es X.env := by rfl) : DAs X b (e :: es) (tCons te t) (raCons re rs) :=
  ⟨pa_cons ha.pe hs.pa h, fun Φ own ρ σ H Q Qv R hr hq => ha.rd Φ own ρ σ H _ _ R hr fun x H1 d1 R1 g1 p1 q1 => hs.rd Φ own ρ σ H1 _ _ R1 q1 fun vs H2 ds R2 g2 p2 q2 =>
    hq (x :: vs) H2 (d1 :: ds) R2 (g1.trans g2) (.cons (R1.rep g2 p1) p2) q2⟩
def raStar (r : RE) (ra : RAs) : RAs := fun ρ Q => r ρ (dS fun xs => ra ρ fun ds => Q (xs ++ ds))
theorem as_star {p : Pos} (ha : DE X b e te re) (hs : DAs X b es t rs) (h : starEach (.Starred e p :: es) X.env = (true, eval e X.env) :: starEach es X.env := by rfl) : DAs X b (.Starred e p :: es) (StX.tStar X.K te t) (raStar re rs) :=
  ⟨StX.pa_star ha.pe hs.pa h, fun Φ own ρ σ H Q Qv R hr hq => ha.rd Φ own ρ σ H _ _ R hr fun x H1 d1 R1 g1 p1 q1 => by
    cases d1 with
    | lst xs =>
      obtain ⟨a, vs, e, ba, rd, _, rv⟩ := p1.sqL
      exact ⟨a, vs, e, .inr (.inl (.inl rd)), hs.rd Φ own ρ σ H1 _ _ R1 q1 fun ws H2 ds R2 g2 p2 q2 => hq _ H2 _ R2 (g1.trans g2) ((R1.reps g2 rv).append p2) q2⟩
    | tup xs =>
      obtain ⟨a, vs, e, sq, _, rv⟩ := p1.sqT
      exact ⟨a, vs, e, .inl sq, hs.rd Φ own ρ σ H1 _ _ R1 q1 fun ws H2 ds R2 g2 p2 q2 => hq _ H2 _ R2 (g1.trans g2) ((R1.reps g2 rv).append p2) q2⟩
    | _ => exact q1.elim⟩
def rLstS (ra : RAs) : RE := fun ρ Q => ra ρ fun ds => ds.length ≤ sizeLine ∧ Q (.lst ds)
def rTupS (ra : RAs) : RE := fun ρ Q => ra ρ fun ds => ds.length ≤ sizeLine ∧ Q (.tup ds)
theorem e_lstS (h : DAs X true es t rs) : DF X (.List es pos) (tLst t) (rLstS rs) :=
  ⟨pe_lst h.pa, fun Φ own ρ σ H Q Qv R hr hq => h.rd Φ own ρ σ H _ _ R hr fun vs H1 ds R1 g1 p1 q1 =>
    have hz : vs.length ≤ sizeLine := by rw [p1.length]; exact q1.1
    ⟨hz, fun p hp => by
      obtain ⟨R2, ok⟩ := R1.newLst hp hz p1
      exact hq _ _ _ R2 (g1.trans (same_grow (same_new hp))) (R1.back g1 hp) ok q1.2⟩⟩
theorem e_tupS {x1} (h : DAs X b es t rs) : DE X b (.Tuple es x1 pos) (tTup t) (rTupS rs) :=
  ⟨pe_tup h.pa, fun Φ own ρ σ H Q Qv R hr hq => h.rd Φ own ρ σ H _ _ R hr fun vs H1 ds R1 g1 p1 q1 =>
    have hz : vs.length ≤ sizeLine := by rw [p1.length]; exact q1.1
    ⟨hz, fun p hp => by
      have s := same_new (o := .tup vs) hp
      exact hq _ _ _ (R1.same s) (g1.trans (same_grow s)) (.tup (R1.fresh hp) (.inl upd_same) hz (p1.mono (same_keeps s))) q1.2⟩⟩

/-! ### x[::-1], list(x), a + b: new lists -/
def rRev (re : RE) : RE := fun ρ Q => re ρ (dL fun ds => Q (.lst ds.reverse))
theorem Reps.rev {K : Ct} {B : Addr → Prop} {H : Hp} : ∀ {vs : List V} {ds : List D}, Reps K B H vs ds → Reps K B H vs.reverse ds.reverse
  | _, _, .nil => .nil
  | _, _, .cons r t => by
    rw [List.reverse_cons, List.reverse_cons]
    exact (Reps.rev t).append (.cons r .nil)
theorem e_rev {k : Nat} {p1 p2 p3 : Pos} (he : DE X true e te re) : DF X (.Subscript e (.Slice none none (some (.UnaryOp .USub (.Constant (.int 1) k p1) p2)) p3) pos) (tRevL X.K te) (rRev re) :=
  ⟨pe_revL he.pe, fun Φ own ρ σ H Q Qv R hr hq => he.rd Φ own ρ σ H _ _ R hr fun x H1 d1 R1 g1 p1 q1 => by
    cases d1 with
    | lst xs =>
      obtain ⟨a, vs, e, ba, rd, hz, rv⟩ := p1.sqL
      refine ⟨a, vs, e, .inl (.inl rd), fun p hp => ?_⟩
      obtain ⟨R2, ok⟩ := R1.newLst hp (by rw [List.length_reverse]; exact hz) rv.rev
      exact hq _ _ _ R2 (g1.trans (same_grow (same_new hp))) (R1.back g1 hp) ok q1
    | _ => exact q1.elim⟩
def rListOf (rs : RAs) : RE := fun ρ Q => rs ρ fun ds => match ds with
  | [d] => dS (fun xs => Q (.lst xs)) d
  | _ => False
theorem e_list {p : Pos} (hm : X.mg "list" = none) (ha : DA X true [e] t rs) (hg : Gl X "list" := by rfl) (he : starEach [e] X.env = (false, eval e X.env) :: starEach [] X.env := by rfl) (hpl : (backTo pos (starEach [] X.env)).any (·.1) = false := by rfl) :
    DF X (.Call (.Name "list" p) [e] [] pos) (tCB (fun xs H Q => ∃ p ys, xs = [.ref p] ∧ (SqL X.K H p ys ∨ SqT X.K H p ys) ∧ ∀ l, H l = none → Q (.ref l) (upd H l (.lst ys))) t) (rListOf rs) :=
  ⟨pe_callTy call_list_of hg hm (by rfl) ha.pa (by decide) (by decide) he hpl, fun Φ own ρ σ H Q Qv R hr hq => ha.rd Φ own ρ σ H _ _ R hr fun vs H1 ds R1 g1 rp hl q1 => by
    match ds, vs, rp, q1 with
    | [d], _, .cons r .nil, q1 =>
      cases d with
      | lst xs =>
        obtain ⟨a, vs, e, ba, rd, hz, rv⟩ := r.sqL
        subst e
        refine ⟨a, vs, rfl, .inl (.inl (.inl rd)), fun p hp => ?_⟩
        obtain ⟨R2, ok⟩ := R1.newLst hp hz rv
        exact hq _ _ _ R2 (g1.trans (same_grow (same_new hp))) (R1.back g1 hp) ok q1
      | tup xs =>
        obtain ⟨a, vs, e, sq, hz, rv⟩ := r.sqT
        subst e
        refine ⟨a, vs, rfl, .inr sq, fun p hp => ?_⟩
        obtain ⟨R2, ok⟩ := R1.newLst hp hz rv
        exact hq _ _ _ R2 (g1.trans (same_grow (same_new hp))) (R1.back g1 hp) ok q1
      | _ => exact q1.elim⟩
def rAddF (ra rb : RE) : RE := fun ρ Q => ra ρ (dL fun xs => rb ρ (dL fun ys => xs.length + ys.length ≤ sizeLine ∧ Q (.lst (xs ++ ys))))
theorem e_addF {e' : Expr} {te' : TE} {re' : RE} (ha : DE X true e te re) (hb : DE X true e' te' re') : DF X (.BinOp e .Add e' pos) (tOp (rCat) te te') (rAddF re re') :=
  ⟨pe_op op_cat ha.pe hb.pe, fun Φ own ρ σ H Q Qv R hr hq => ha.rd Φ own ρ σ H _ _ R hr fun x H1 d1 R1 g1 p1 q1 => by
    cases d1 with
    | lst xs =>
      refine hb.rd Φ own ρ σ H1 _ _ R1 q1 fun y H2 d2 R2 g2 p2 q2 => ?_
      cases d2 with
      | lst ys =>
        obtain ⟨a, vs, e, ba, rd, hz, rv⟩ := (R1.rep g2 p1).sqL
        obtain ⟨a2, vs2, e2, ba2, rd2, hz2, rv2⟩ := p2.sqL
        subst e e2
        refine ⟨a, a2, vs, vs2, rfl, rfl, rd, rd2, by rw [rv.length, rv2.length]; exact q2.1, fun p hp => ?_⟩
        obtain ⟨R3, ok⟩ := R2.newLst hp (by rw [List.length_append, rv.length, rv2.length]; exact q2.1) (rv.append rv2)
        exact hq _ _ _ R3 ((g1.trans g2).trans (same_grow (same_new hp))) (R2.back (g1.trans g2) hp) ok q2.2
      | _ => exact q2.elim
    | _ => exact q1.elim⟩

/-! ### x.extend(e) -/
def rExt (i : Nat) (re : RE) : RS := fun D ρ => match ρ[i]? with
  | some (.own (.lst ds)) => re ρ (dL fun es => ds.length + es.length ≤ sizeLine ∧ D.nx (ρ.set i (.own (.lst (ds ++ es)))))
  | _ => False
theorem s_ext (i : Nat) {x : Str} {p apos cpos : Pos} (he : DE X true e te re) (hN : X.N[i]? = some x := by rfl) (hv : Vis X.env.scope x := by first | exact Or.inl rfl | exact Or.inr (Or.inl rfl) | exact Or.inr (Or.inr rfl)) (hd : (x == ("__debug__" : Str)) = false := by decide)
    (hcd : (x == ("__classdict__" : Str)) = false := by decide) (hbase : attributeBase (.Name x p) "extend" X.env (eval (.Name x p) X.env) = eval (.Name x p) X.env := by rfl)
    (hfew : ((backTo cpos (starEach (e :: []) X.env)).all (fun x => !x.1) && (backToKw cpos (keywordEach [] X.env)).all (fun x => x.1.isSome)
      && decide ((e :: []).length + ([] : List Keyword).length + (if ([] : List Keyword).isEmpty then 0 else 1) < 30)) = true := by rfl)
    (hline : (apos.endLine == cpos.line) = true := by rfl) (hs : starEach (e :: []) X.env = (false, eval e X.env) :: starEach [] X.env := by rfl) (hplain : (backTo cpos (starEach [] X.env)).any (·.1) = false := by rfl)
    (hsw : swapsWith (.Call (.Attribute (.Name x p) "extend" apos) [e] [] cpos) none pos.line X.env = pure false := by rfl) :
    DS X (.Expr (.Call (.Attribute (.Name x p) "extend" apos) [e] [] cpos) pos) (rExt i re) :=
  ⟨_, ps_expr (pe_bm PySem.F.plainAttrs_list PySem.F.slot_list_extend PySem.F.type_list_extend mt_extend (pe_var hN hv hd hcd) (pa_cons he.pe pa_nil hs) hbase hfew hline hs hplain) hsw, fun Φ own ρ σ H D E R h l => by
    unfold rExt at h
    split at h
    · rename_i ds hi
      obtain ⟨a, ha, m, vs, ea, hz0, rv⟩ := R.ownAt hi
      refine ⟨_, ha, .inl ⟨rfl, vs, .inl (.inl ea)⟩, he.rd Φ own ρ σ H _ _ R h fun v H' d R' g rp q => ?_⟩
      cases d with
      | lst es =>
        obtain ⟨a2, vs2, e2, ba2, rd2, hz2, rv2⟩ := rp.sqL
        subst e2
        have ea2 := g a _ (R.ownNsx m) ea
        refine ⟨a, a2, vs, vs2, rfl, rfl, ea2, rd2, by rw [rv.length, rv2.length]; exact q.1, ?_⟩
        obtain ⟨R2, ev⟩ := R'.wLst hi ha (by rw [List.length_append, rv.length, rv2.length]; exact q.1) ((R.reps g rv).append rv2)
        exact l.nx own _ σ _ R2 ((R.evo g).trans ev) q.2
      | _ => exact q.elim
    · exact h.elim⟩

/-! ### max of ints -/
def maxL (n : Int) (ns : List Int) : Int := ns.foldl max n
theorem maxL_mem : ∀ {ns : List Int} {n : Int}, maxL n ns ∈ n :: ns
  | [], n => by simp [maxL]
  | k :: r, n => by
    have := maxL_mem (ns := r) (n := max n k)
    show maxL (max n k) r ∈ _
    rcases List.mem_cons.mp this with h | h
    · rw [h]
      rcases Int.le_total n k with z | z
      · rw [Int.max_eq_right z]; simp
      · rw [Int.max_eq_left z]; simp
    · simp [h]
theorem maxL_le : ∀ {ns : List Int} {n : Int}, ∀ x ∈ n :: ns, x ≤ maxL n ns
  | [], n, x, h => by simp at h; simp [maxL, h]
  | k :: r, n, x, h => by
    show x ≤ maxL (max n k) r
    have ih := maxL_le (ns := r) (n := max n k)
    rcases List.mem_cons.mp h with h | h
    · rw [h]; exact Int.le_trans (Int.le_max_left _ _) (ih _ List.mem_cons_self)
    · rcases List.mem_cons.mp h with h | h
      · rw [h]; exact Int.le_trans (Int.le_max_right _ _) (ih _ List.mem_cons_self)
      · exact ih x (List.mem_cons_of_mem _ h)
theorem reps_ints {K : Ct} {B : Addr → Prop} {H : Hp} : ∀ {vs : List V} {ns : List Int}, Reps K B H vs (ns.map D.int) → vs = ns.map V.int
  | vs, [], h => by cases h; rfl
  | vs, n :: ns, h => by
    have h' : Reps K B H vs (.int n :: ns.map D.int) := h
    cases h' with
    | cons r t => rw [r.isInt, reps_ints t]; rfl
def cMax : RCs := fun ds Q => match ds with
  | [.lst xs] => ∃ n ns, xs = (n :: ns).map D.int ∧ Q (.int (maxL n ns))
  | _ => False
theorem d_max {K : Ct} : DCl K (rMax K.K) cMax := fun B vs H ds Q Qv _ rp hq k => by
  match ds, vs, rp, hq with
  | [.lst xs], _, .cons r .nil, hq =>
    obtain ⟨n, ns, rfl, q⟩ := hq
    obtain ⟨a, vs, rfl, _, rd, _, rv⟩ := r.sqL
    rw [reps_ints rv] at rd
    refine ⟨a, n :: ns, rfl, .inl (.inl rd), by simp, fun m hm hle => ?_⟩
    have e : m = maxL n ns := Int.le_antisymm (maxL_le m hm) (hle _ maxL_mem)
    subst e
    exact k _ H _ (fun _ _ e => e) (.int _) q
theorem e_max {p : Pos} (hc : X.calm = true) (hm : X.mg "max" = none) (ha : DA X b [e] t rs) (hg : Gl X "max" := by rfl) (he : starEach [e] X.env = (false, eval e X.env) :: starEach [] X.env := by rfl) (hpl : (backTo pos (starEach [] X.env)).any (·.1) = false := by rfl) :
    DE X b (.Call (.Name "max" p) [e] [] pos) (tCB (rMax X.K) t) (rCl cMax rs) := e_bi (cr_max hc) d_max hg hm (by rfl) ha (by decide) (by decide) he hpl
def rMaxDf (K : PySem.W.Frag) : List V → List V → Hp → VK → Prop := fun vs zs H Q => ∃ (a : Addr) (ns : List Int) (d : Int), vs = [.ref a] ∧ zs = [.int d] ∧ SqL K H a (ns.map V.int) ∧ Q (.int (match ns with | [] => d | n :: r => maxL n r)) H
theorem reads_ints {h : Heap} : ∀ {ns : List Int} {its : List Value}, Vals (ns.map V.int) its → ReadsAll h its (ns.map PyData.int) []
  | [], _, .nil => .nil
  | n :: ns, _, .cons r t => by
    obtain ⟨t', rfl⟩ := r
    exact .cons (as := []) (bs := []) (.int n t') (reads_ints t)
theorem cr_maxDf (hc : X.calm = true) (hu : X.A.units + 70 < cLine) : CallRK X (.builtin "max") [Str.ofString "default"] (rMaxDf X.K) := by
  intro pins s σ H xs zs us ws Q I r rz h
  obtain ⟨a, ns, d, rfl, rfl, hs, q⟩ := h
  obtain ⟨its, rv, hl, hz⟩ := I.list hs
  rw [Vals.ref1 r]
  obtain ⟨u, rfl, ⟨t, rfl⟩⟩ := vals1 rz
  show wpAny _ _ (call (.builtin "max") [.ref a] [(Str.ofString "default", .int d t)]) _ _ s
  have hal : PySem.W.AlikeAll (ns.map PyData.int) := ⟨fun x hx y hy => by
    obtain ⟨i, _, rfl⟩ := List.mem_map.mp hx
    obtain ⟨j, _, rfl⟩ := List.mem_map.mp hy
    simp [PySem.W.alike], fun x hx => by
    obtain ⟨i, _, rfl⟩ := List.mem_map.mp hx
    exact fun z => nomatch z⟩
  refine PySem.W.max_list_default (xs := ns.map PyData.int) (I.ok.hd hc) hl.isList (by simpa using reads_ints rv) hal (by rw [PySem.W.depth_ints]; omega) (fun he h' tk hk => ?_) fun y ys i v h' tk bs he hv hr hk => ?_
  · have e : ns = [] := by simpa using he
    subst e
    exact ⟨.int d, H, I.kept hk, ⟨t, rfl⟩, q⟩
  · cases ns with
    | nil => cases he
    | cons n r =>
      have he' : PyData.int n :: r.map PyData.int = y :: ys := he
      obtain ⟨rfl, rfl⟩ := List.cons.inj he'
      rw [PySem.W.maxD_ints] at hr
      cases hr
      exact ⟨.int (maxL n r), H, I.kept hk, ⟨_, rfl⟩, q⟩
def rMaxD (rs : RAs) (rk : RAs) : RE := fun ρ Q => rs ρ fun ds => rk ρ fun ks => match ds, ks with
  | [.lst xs], [.int d] => ∃ ns : List Int, xs = ns.map D.int ∧ Q (.int (match ns with | [] => d | n :: r => maxL n r))
  | _, _ => False
theorem e_maxD {p kpos : Pos} {ek : Expr} {tk : TE} {rk : RE} (hc : X.calm = true) (hu : X.A.units + 70 < cLine) (hm : X.mg "max" = none) (ha : DA X b [e] t rs) (hk : DE X b ek tk rk) (hg : Gl X "max" := by rfl)
    (he : backTo pos (starEach [e] X.env) = (false, eval e X.env) :: backTo pos (starEach [] X.env) := by rfl) (hpl : (backTo pos (starEach [e] X.env)).any (·.1) = false := by rfl)
    (hall : (backToKw pos (keywordEach [⟨some "default", ek, kpos⟩] X.env)).all (·.1.isSome) = true := by rfl) (hnone : (backToKw pos (keywordEach [⟨some "default", ek, kpos⟩] X.env)).any (·.1.isNone) = false := by rfl) (hks : (backToKw pos (keywordEach [⟨some "default", ek, kpos⟩] X.env)).filterMap (·.1) = [Str.ofString "default"] := by rfl) :
    DE X b (.Call (.Name "max" p) [e] [⟨some "default", ek, kpos⟩] pos) (tCKw (rMaxDf X.K) t (tCons tk tNil)) (rMaxD rs (raCons rk raNil)) :=
  ⟨pe_callBK (cr_maxDf hc hu) hg hm (by rfl) ha.pa (pk_cons hk.pe pk_nil) (by decide) (by decide) he hpl hall hnone hks, fun Φ own ρ σ H Q Qv R hr hq => ha.rd Φ own ρ σ H _ _ R hr fun vs H1 ds R1 g1 p1 _ q1 =>
    hk.rd Φ own ρ σ H1 _ _ R1 q1 fun v H2 d2 R2 g2 p2 q2 => by
      match ds, vs, p1, d2, q2 with
      | [.lst xs], _, .cons r .nil, .int d, ⟨ns, e, q2⟩ =>
        subst e
        obtain ⟨a, vs, rfl, _, rd, _, rv⟩ := (R1.rep g2 r).sqL
        rw [reps_ints rv] at rd
        rw [p2.isInt]
        exact ⟨a, ns, d, rfl, rfl, .inl (.inl rd), hq _ H2 _ R2 (g1.trans g2) (.int _) q2⟩⟩

/-! ### a, b, c = x, y, [..] -/
def rPar3O (i j l : Nat) (rs : RAs) (rc : RE) : RS := fun D ρ => rs ρ fun ds => match ds with
  | [c, d] => rc ρ fun f => D.nx (((ρ.set i (.val c)).set j (.val d)).set l (.own f))
  | _ => False
end
end DL
end
section
set_option maxRecDepth 100000
/-! DRepr: repr of data, ints of up to 4,300 digits. -/
namespace PySem
open PySem PyProof.Rows
mutual
/-- ints of at most 4,300 digits, no dict -/
def smallP : PyData → Prop
  | .int i => i.natAbs < 10 ^ 4300
  | .list xs => smallPs xs
  | .tuple xs => smallPs xs
  | .dict _ => False
  | .none => True
  | .bool _ => True
  | .str _ => True
def smallPs : List PyData → Prop
  | [] => True
  | x :: xs => smallP x ∧ smallPs xs
end
section
variable {prog : Program} {w : World} {h₀ : Heap}
theorem big_call {A : Around} {E : Value → Shared → Prop} {s : Shared} {i : Int} {t : Tok} {Q : Value → Shared → Prop} (hi : i.natAbs < 10 ^ 4300) (hn : s.heap.NoDigits) (h : Q (.str (toString i) s.toks) { s with toks := s.toks + 1 }) :
    wpAny (model prog w) A (call (.builtin "int.__repr__") [.int i t]) Q E s := by
  refine wpAny_call_entry F.slot_int_repr (typeIs_int s i t) F.entry_int_repr ?_ (F.args_int_repr_1 _)
  unfold Builtin.«int.__repr__»
  show wpAny _ _ (do let r ← Builtin.overDigitLimit? i; _) _ _ s
  exact wpAny_bind (overDigitLimit_any hn (fun hlt => wpAny_bind (wpAny_mkStr (wpAny_pure ⟨_, rfl, h⟩) (int_text_fits10 hlt))) fun hge => absurd hi (Nat.not_lt.mpr hge))
theorem big_int {i : Int} {t : Tok} {bs : List Addr} {d : Nat} (hi : i.natAbs < 10 ^ 4300) (hn : h₀.NoDigits) : ReprK prog w bs h₀ d (.int i t) (toString i) := by
  intro base hb A g E s Q hg hcl hu hk hQ
  have hn' : base ≤ sizeLine := by omega
  rw [pyReprUnder_leaf (v := .int i t) hn' (fun _ e => nomatch e)]
  unfold pyRepr
  refine wpAny_bind (wpAny_pyReprObj_slot (by omega) (typeIs_int s i t) F.slot_int_repr.toG (big_call hi (hn.keeps hk) ⟨_, _, rfl, ?_⟩))
  exact wpAny_pure (hQ s.heap _ fun _ _ e => e)
mutual
theorem big_reprK (hn : h₀.NoDigits) : ∀ {v : Value} {d : PyData} {as : List Addr}, Reads h₀ v d as → smallP d → d.shown.length ≤ sizeLine → ∃ bs, ReadAtMost h₀ d.depth bs ∧ ReprK prog w bs h₀ d.depth v d.shown
  | _, _, _, .none, _, _ => ⟨[], (fun _ h => nomatch h), by simp only [PyData.shown]; exact .of_is ReprIs.none _ _ _⟩
  | _, _, _, .bool b, _, _ => ⟨[], (fun _ h => nomatch h), by simp only [PyData.shown]; exact .of_is (ReprIs.bool b) _ _ _⟩
  | _, _, _, .int i t, hs, _ => ⟨[], (fun _ h => nomatch h), by simp only [PyData.shown]; exact big_int (by simpa [smallP] using hs) hn⟩
  | _, _, _, .str x t, _, hz => ⟨[], (fun _ h => nomatch h), by simp only [PyData.shown]; exact .of_is (ReprIs.str x t (by simpa only [PyData.shown] using hz)) _ _ _⟩
  | _, _, _, .list (a := a) (vs := vs) (xs := xs) h1 h2 h3 h4, hs, hz => by
    have hz' : (listText (PyData.shownAll xs)).length ≤ sizeLine := by simpa only [PyData.shown] using hz
    obtain ⟨bs, hb, hk⟩ := big_reprs hn h4 (by simpa only [smallP] using hs) (fun t ht => Nat.le_trans (listText_mem_le ht) hz')
    have r : Reads h₀ (.ref a) (.list xs) _ := .list h1 h2 h3 h4
    have hna : a ∉ bs := not_mem_of_deeper r (by simp only [PyData.depth]; omega) hb
    refine ⟨a :: bs, ReadAtMost.cons r (by simp only [PyData.depth]; omega) hb, ?_⟩
    simp only [PyData.depth, PyData.shown]
    obtain ⟨l⟩ := vs
    cases l with
    | nil =>
      have h4' : ReadsAll h₀ [] xs _ := h4
      cases h4'
      simp only [PyData.shownAll, listText_nil]
      exact ReprK.listEmpty h1 h2 h3
    | cons x l => exact ReprK.list h1 h2 h3 hna (by simpa using hk.length_eq) (fun i y e => hk.item i y (by simpa using e))
  | _, _, _, .tuple (a := a) (xs := xs) h1 h2 h3 h4, hs, hz => by
    have hz' : (tupleText (PyData.shownAll xs)).length ≤ sizeLine := by simpa only [PyData.shown] using hz
    obtain ⟨bs, hb, hk⟩ := big_reprs hn h4 (by simpa only [smallP] using hs) (fun t ht => Nat.le_trans (tupleText_mem_le ht) hz')
    have r : Reads h₀ (.ref a) (.tuple xs) _ := .tuple h1 h2 h3 h4
    have hna : a ∉ bs := not_mem_of_deeper r (by simp only [PyData.depth]; omega) hb
    refine ⟨a :: bs, ReadAtMost.cons r (by simp only [PyData.depth]; omega) hb, ?_⟩
    simp only [PyData.depth, PyData.shown]
    exact ReprK.tuple h1 h2 h3 hna hk
  | _, _, _, .dict _ _ _ _ _, hs, _ => False.elim (by simpa only [smallP] using hs)
theorem big_reprs (hn : h₀.NoDigits) : ∀ {vs : List Value} {ds : List PyData} {as : List Addr}, ReadsAll h₀ vs ds as → smallPs ds → (∀ t ∈ PyData.shownAll ds, t.length ≤ sizeLine) →
    ∃ bs, ReadAtMost h₀ (PyData.depthAll ds) bs ∧ ReprAllK prog w bs h₀ (PyData.depthAll ds) vs (PyData.shownAll ds)
  | _, _, _, .nil, _, _ => ⟨[], (fun _ h => nomatch h), by simp only [PyData.shownAll]; exact .nil⟩
  | _, _, _, .cons (d := d) (ds := ds) r rs, hs, hz => by
    have hs' : smallP d ∧ smallPs ds := by simpa only [smallPs] using hs
    obtain ⟨b1, hb1, k1⟩ := big_reprK hn r hs'.1 (hz _ (by simp only [PyData.shownAll]; exact List.mem_cons_self ..))
    obtain ⟨b2, hb2, k2⟩ := big_reprs hn rs hs'.2 (fun t ht => hz t (by simp only [PyData.shownAll]; exact List.mem_cons_of_mem _ ht))
    refine ⟨b1 ++ b2, ?_, ?_⟩
    · intro b hm
      simp only [PyData.depthAll]
      rcases List.mem_append.mp hm with hm | hm
      · obtain ⟨d', as', r', hd'⟩ := hb1 b hm
        exact ⟨d', as', r', Nat.le_trans hd' (Nat.le_max_left _ _)⟩
      · obtain ⟨d', as', r', hd'⟩ := hb2 b hm
        exact ⟨d', as', r', Nat.le_trans hd' (Nat.le_max_right _ _)⟩
    · simp only [PyData.depthAll, PyData.shownAll]
      exact .cons ((k1.more fun b hb => List.mem_append_left _ hb).level_le (Nat.le_max_left _ _)) (k2.more_le (fun b hb => List.mem_append_right _ hb) (Nat.le_max_right _ _))
end
/-- repr(x) of a list or a tuple -/
theorem big_repr {a : Addr} {d : PyData} {as : List Addr} {A : Around} {E : Value → Shared → Prop} {s : Shared} {Q : Value → Shared → Prop} (hn : s.heap.NoDigits) (r : Reads s.heap (.ref a) d as) (hs : smallP d) (hsz : d.shown.length ≤ sizeLine) (hg : A.guards = some [])
    (hu : A.units + (d.depth + 1) < cLine) (hQ : ∀ h' u tk, (∀ b o, s.heap.get? b = some o → h'.get? b = some o) → Q (.str d.shown u) { s with heap := h', toks := tk }) : wpAny (model prog w) A (call (.builtin "repr") [.ref a]) Q E s := by
  have hk0 : ∀ b o, s.heap.get? b = some o → s.heap.get? b = some o := fun _ _ e => e
  cases r with
  | list h1 h2 h3 h4 =>
    rename_i o vs n xs bs₀
    have hz' : (listText (PyData.shownAll xs)).length ≤ sizeLine := by simpa only [PyData.shown] using hsz
    obtain ⟨bs, hb, hk⟩ := big_reprs (prog := prog) (w := w) hn h4 (by simpa only [smallP] using hs) (fun t ht => Nat.le_trans (listText_mem_le ht) hz')
    have hna : a ∉ bs := not_mem_of_deeper (.list h1 h2 h3 h4) (by simp only [PyData.depth]; omega) hb
    simp only [PyData.depth] at hu
    simp only [PyData.shown] at hQ
    refine call_repr_slot (by omega) ⟨o, h1, h2⟩ F.slot_list_repr.toG ?_
    obtain ⟨l⟩ := vs
    cases l with
    | nil =>
      have h4' : ReadsAll s.heap [] xs _ := h4
      cases h4'
      simp only [PyData.shownAll, listText_nil] at hQ
      exact call_list_repr_empty ⟨o, h1, h2⟩ h1 h3 ⟨_, _, rfl, hQ s.heap _ _ fun _ _ e => e⟩
    | cons x l =>
      exact call_list_reprK h1 h2 h3 hna (by simpa using hk.length_eq) (fun i y e => hk.item i y (by simpa using e)) hg (fun b _ => Clear.nil b) (by show A.units + 1 + _ < cLine; omega) hk0 (fun h' u tk hk' => ⟨_, _, rfl, hQ h' u tk hk'⟩) hz'
  | tuple h1 h2 h3 h4 =>
    rename_i o vs n xs
    have hz' : (tupleText (PyData.shownAll xs)).length ≤ sizeLine := by simpa only [PyData.shown] using hsz
    obtain ⟨bs, hb, hk⟩ := big_reprs (prog := prog) (w := w) hn h4 (by simpa only [smallP] using hs) (fun t ht => Nat.le_trans (tupleText_mem_le ht) hz')
    have hna : a ∉ bs := not_mem_of_deeper (.tuple h1 h2 h3 h4) (by simp only [PyData.depth]; omega) hb
    simp only [PyData.depth] at hu
    simp only [PyData.shown] at hQ
    exact call_repr_slot (by omega) ⟨o, h1, h2⟩ F.slot_tuple_repr (call_tuple_reprK h1 h2 h3 hna hk hg (fun b _ => Clear.nil b) (by show A.units + 1 + _ < cLine; omega) hk0 (fun h' u tk hk' => ⟨_, _, rfl, hQ h' u tk hk'⟩) hz')
  | dict _ _ _ _ _ => exact False.elim (by simpa only [smallP] using hs)
end
end PySem

namespace DL
open PySem PySem.Spec L2 PyProof.Rows
section
variable {X : Cx} {pins : List (Addr × Obj)} {σ : L2.St} {H : Hp} {s : Shared} {B : Addr → Prop}
mutual
theorem reads_big (I : Inv X pins σ H s) : ∀ (d : D) (v : V) (u : Value), d.nodict = true → Rep X.ct B H v d → RelV v u → ∃ as, Reads s.heap u d.pd as
  | .non, v, u, _, r, ru => by rw [r.isNon] at ru; cases ru; simp only [D.pd]; exact ⟨_, .none⟩
  | .bl b, v, u, _, r, ru => by cases r; cases ru; simp only [D.pd]; exact ⟨_, .bool b⟩
  | .int i, v, u, _, r, ru => by rw [r.isInt] at ru; obtain ⟨t, rfl⟩ := ru; simp only [D.pd]; exact ⟨_, .int i t⟩
  | .str x, v, u, _, r, ru => by rw [r.isStr] at ru; obtain ⟨t, rfl⟩ := ru; simp only [D.pd]; exact ⟨_, .str x t⟩
  | .tup ds, v, u, hi, r, ru => by
    obtain ⟨a, vs, rfl, sq, _, rs⟩ := r.sqT
    cases ru
    obtain ⟨its, rv, ⟨o, ho, hc, n, hd⟩, _⟩ := I.tuple sq
    simp only [D.pd]
    obtain ⟨as, h⟩ := readsAll_big I ds vs its (by simpa only [D.nodict] using hi) rs rv
    exact ⟨_, .tuple ho hc hd (by simpa using h)⟩
  | .lst ds, v, u, hi, r, ru => by
    obtain ⟨a, vs, rfl, _, rd, _, rs⟩ := r.sqL
    cases ru
    obtain ⟨its, rv, p, _⟩ := I.list (.inl (.inl rd))
    obtain ⟨o, ho, hc, n, hd⟩ := p.isList
    simp only [D.pd]
    obtain ⟨as, h⟩ := readsAll_big I ds vs its (by simpa only [D.nodict] using hi) rs rv
    exact ⟨_, .list ho hc hd (by simpa using h)⟩
  | .dK _, _, _, hi, _, _ => by simp [D.nodict] at hi
  | .dN _, _, _, hi, _, _ => by simp [D.nodict] at hi
theorem readsAll_big (I : Inv X pins σ H s) : ∀ (ds : List D) (vs : List V) (us : List Value), D.nodicts ds = true → Reps X.ct B H vs ds → Vals vs us → ∃ as, ReadsAll s.heap us (D.pds ds) as
  | [], vs, us, _, r, ru => by cases r; cases ru; simp only [D.pds]; exact ⟨_, .nil⟩
  | d :: ds, vs, us, hi, r, ru => by
    simp only [D.nodicts, Bool.and_eq_true] at hi
    cases r with
    | cons r1 r2 =>
      cases ru with
      | cons u1 u2 =>
        simp only [D.pds]
        obtain ⟨a, h1⟩ := reads_big I d _ _ hi.1 r1 u1
        obtain ⟨b, h2⟩ := readsAll_big I ds _ _ hi.2 r2 u2
        exact ⟨_, .cons h1 h2⟩
end
end
/-- what repr is asked of: a list or a tuple without dicts -/
def showOk (d : D) : Prop := d.nodict = true ∧ smallP d.pd ∧ d.pd.shown.length ≤ sizeLine ∧ d.pd.depth ≤ 60
def showD (d : D) : Str := d.pd.shown
def isSeq : D → Prop
  | .tup _ => True
  | .lst _ => True
  | _ => False
def rRepr (K : Ct) : List V → Hp → VK → Prop := fun xs H Q => ∃ (B : Addr → Prop) (a : Addr) (d : D), xs = [.ref a] ∧ Rep K B H (.ref a) d ∧ showOk d ∧ Q (.str (showD d)) H
theorem cr_repr {X : Cx} {k : Nat} (hr : RoomG k X.A) (hd : X.base.NoDigits) : CallR X (.builtin "repr") (rRepr X.ct) := by
  intro pins s σ H xs us Q I r h
  obtain ⟨B, a, d, rfl, rp, ok, q⟩ := h
  rw [Vals.ref1 r]
  obtain ⟨as, rd⟩ := reads_big I d _ _ ok.1 rp (rfl : RelV (.ref a) (.ref a))
  have hu := hr.u
  have hde := ok.2.2.2
  exact big_repr (hd.keeps I.bk) rd ok.2.1 ok.2.2.1 hr.g (by omega) fun h' u tk hk => ⟨.str (showD d), H, I.kept hk, ⟨u, rfl⟩, q⟩
def cRepr : RCs := fun ds Q => match ds with
  | [.lst xs] => showOk (.lst xs) ∧ Q (.str (showD (.lst xs)))
  | [.tup xs] => showOk (.tup xs) ∧ Q (.str (showD (.tup xs)))
  | _ => False
theorem d_repr {K : Ct} : DCl K (rRepr K) cRepr := fun B vs H ds Q Qv _ rp hq k => by
  match ds, vs, rp, hq with
  | [.lst xs], _, .cons r .nil, hq =>
    obtain ⟨a, vs, rfl, _⟩ := r.sqL
    exact ⟨B, a, _, rfl, r, hq.1, k _ H _ (fun _ _ e => e) (.str _) hq.2⟩
  | [.tup xs], _, .cons r .nil, hq =>
    obtain ⟨a, vs, rfl, _⟩ := r.sqT
    exact ⟨B, a, _, rfl, r, hq.1, k _ H _ (fun _ _ e => e) (.str _) hq.2⟩
theorem e_repr {X : Cx} {b : Bool} {e : Expr} {t : TA} {rs : RAs} {p pos : Pos} {k : Nat} (hr : RoomG k X.A) (hd : X.base.NoDigits) (hm : X.mg "repr" = none) (ha : DA X b [e] t rs) (hg : Gl X "repr" := by rfl) (he : starEach [e] X.env = (false, eval e X.env) :: starEach [] X.env := by rfl) (hpl : (backTo pos (starEach [] X.env)).any (·.1) = false := by rfl) :
    DE X b (.Call (.Name "repr" p) [e] [] pos) (tCB (rRepr X.ct) t) (rCl cRepr rs) := e_bi (cr_repr hr hd) d_repr hg hm (by rfl) ha (by decide) (by decide) he hpl
end DL
end
section
set_option maxRecDepth 100000
/-! DSrc: the drawing source: its reads and writes, its cells emptied. -/
namespace DL
open PySem PySem.Spec L2

theorem SrcGet {H : Hp} {a c : Addr} {ns : List Int} {l m t : Int} (h : H a = some (.dK [(Sum.inr "cells", .ref c), (Sum.inr "left", .int l), (Sum.inr "mixed", .int m), (Sum.inr "turn", .int t)])) :
    DGet H a (.str "cells") (some (.ref c)) ∧ DGet H a (.str "left") (some (.int l)) ∧ DGet H a (.str "mixed") (some (.int m)) ∧ DGet H a (.str "turn") (some (.int t)) :=
  ⟨DGet.k (k := Sum.inr "cells") h, DGet.k (k := Sum.inr "left") h, DGet.k (k := Sum.inr "mixed") h, DGet.k (k := Sum.inr "turn") h⟩
theorem SrcPut {H : Hp} {a c : Addr} {l m t v : Int} (h : H a = some (.dK [(Sum.inr "cells", .ref c), (Sum.inr "left", .int l), (Sum.inr "mixed", .int m), (Sum.inr "turn", .int t)])) (z : Str) (hz : z = "left" ∨ z = "mixed" ∨ z = "turn") :
    ∃ l' m' t', DPut H a (.str z) (.int v) (upd H a (.dK [(Sum.inr "cells", .ref c), (Sum.inr "left", .int l'), (Sum.inr "mixed", .int m'), (Sum.inr "turn", .int t')])) := by
  rcases hz with rfl | rfl | rfl
  · exact ⟨v, m, t, DPut.k (k := Sum.inr "left") h (by show 4 < sizeLine; decide)⟩
  · exact ⟨l, v, t, DPut.k (k := Sum.inr "mixed") h (by show 4 < sizeLine; decide)⟩
  · exact ⟨l, m, v, DPut.k (k := Sum.inr "turn") h (by show 4 < sizeLine; decide)⟩
section
variable {K : Ct} {Φ : Frm} {own : Ow} {ρ : En} {σ : L2.St} {H : Hp} {a c : Addr}
theorem Rel.srcPut (R : Rel K Φ own ρ σ H) (hs : Φ.src = some (a, c)) {l m t : Int} : Rel K Φ own ρ σ (upd H a (.dK [(Sum.inr "cells", .ref c), (Sum.inr "left", .int l), (Sum.inr "mixed", .int m), (Sum.inr "turn", .int t)])) ∧
    Grow Φ H (upd H a (.dK [(Sum.inr "cells", .ref c), (Sum.inr "left", .int l), (Sum.inr "mixed", .int m), (Sum.inr "turn", .int t)])) := by
  obtain ⟨n1, n2, ns, l0, m0, t0, h1, h2, h3⟩ := R.src a c hs
  have hac : c ≠ a := fun e => by rw [e, h1] at h2; cases h2
  have g : Grow Φ H (upd H a (.dK [(Sum.inr "cells", .ref c), (Sum.inr "left", .int l), (Sum.inr "mixed", .int m), (Sum.inr "turn", .int t)])) := fun q o nq e => by
    rw [upd_ne fun z => nq ⟨a, c, hs, .inl z⟩]; exact e
  refine ⟨R.grow g fun a' c' e => ?_, g⟩
  rw [hs] at e; cases e
  exact ⟨ns, l, m, t, upd_same, by rw [upd_ne hac]; exact h2, h3⟩
theorem Rel.srcPop (R : Rel K Φ own ρ σ H) (hs : Φ.src = some (a, c)) {ns : List Int} {l m t : Int} (h1 : H a = some (.dK [(Sum.inr "cells", .ref c), (Sum.inr "left", .int l), (Sum.inr "mixed", .int m), (Sum.inr "turn", .int t)]))
    (hz : ns.length ≤ 63) : Rel K Φ own ρ σ (upd H c (.lst (ns.map V.int))) ∧ Grow Φ H (upd H c (.lst (ns.map V.int))) := by
  obtain ⟨n1, n2, ns0, l0, m0, t0, h1', h2, h3⟩ := R.src a c hs
  have hac : a ≠ c := fun e => by rw [e, h2] at h1; cases h1
  have g : Grow Φ H (upd H c (.lst (ns.map V.int))) := fun q o nq e => by rw [upd_ne fun z => nq ⟨a, c, hs, .inr z⟩]; exact e
  refine ⟨R.grow g fun a' c' e => ?_, g⟩
  rw [hs] at e; cases e
  exact ⟨ns, l, m, t, by rw [upd_ne hac]; exact h1, upd_same, hz⟩
end

section
variable {X : Cx} {e : Expr} {te : TE} {re : RE} {pos ps px : Pos} {b : Bool}
/-- source[key], an int -/
def rSrcI (i : Nat) : RE := fun ρ Q => ρ[i]? = some .src ∧ ∀ l : Int, Q (.int l)
theorem e_srcI (i : Nat) {y key : Str} {kk : Nat} {kp : Pos} (hu : X.A.units + 1 < cLine) (hz : key = "left" ∨ key = "mixed" ∨ key = "turn") (hN : X.N[i]? = some y := by rfl)
    (hv : Vis X.env.scope y := by first | exact Or.inl rfl | exact Or.inr (Or.inl rfl) | exact Or.inr (Or.inr rfl)) (hyd : (y == ("__debug__" : Str)) = false := by decide) (hcd : (y == ("__classdict__" : Str)) = false := by decide)
    (hs : NoSl (.Constant (.str key) kk kp) := by intro _ _; rfl) : DE X b (.Subscript (.Name y px) (.Constant (.str key) kk kp) pos) (tDGet (tVar i) (tC (.str key))) (rSrcI i) :=
  ⟨pe_dget hu (pe_var hN hv hyd hcd) pe_str hs, fun Φ own ρ σ H Q Qv R hr hq => by
    obtain ⟨hs, hr⟩ := hr
    obtain ⟨a, c, ea, es⟩ := R.slots i _ hs
    obtain ⟨_, _, ns, l, m, t, h1, _⟩ := R.src a c es
    obtain ⟨_, g1, g2, g3⟩ := SrcGet (ns := ns) h1
    refine ⟨.ref a, join_some ea, ?_⟩
    rcases hz with rfl | rfl | rfl
    · exact ⟨a, _, rfl, g1, hq _ H _ R Grow.refl (.int _) (hr _)⟩
    · exact ⟨a, _, rfl, g2, hq _ H _ R Grow.refl (.int _) (hr _)⟩
    · exact ⟨a, _, rfl, g3, hq _ H _ R Grow.refl (.int _) (hr _)⟩⟩
/-- source[key] = an int -/
def rSrcP (i : Nat) (re : RE) : RS := fun D ρ => ρ[i]? = some .src ∧ re ρ fun d => ∃ v : Int, d = .int v ∧ D.nx ρ
theorem s_srcP (i : Nat) {y key : Str} {kk : Nat} {kp : Pos} (hu : X.A.units + 1 < cLine) (hz : key = "left" ∨ key = "mixed" ∨ key = "turn") (he : DE X b e te re) (hN : X.N[i]? = some y := by rfl)
    (hv : Vis X.env.scope y := by first | exact Or.inl rfl | exact Or.inr (Or.inl rfl) | exact Or.inr (Or.inr rfl)) (hyd : (y == ("__debug__" : Str)) = false := by decide) (hcd : (y == ("__classdict__" : Str)) = false := by decide)
    (hs : swapsWith e (some (.Subscript (.Name y px) (.Constant (.str key) kk kp) ps)) pos.line X.env = pure false := by rfl) :
    DS X (.Assign [.Subscript (.Name y px) (.Constant (.str key) kk kp) ps] e pos) (rSrcP i re) :=
  ⟨_, ps_dput hu (pe_var hN hv hyd hcd) pe_str he.pe hs, fun Φ own ρ σ H D E R h l => by
    obtain ⟨hs, h⟩ := h
    refine he.rd Φ own ρ σ H _ _ R h fun v H1 d R1 g1 rp q => ?_
    obtain ⟨z, rfl, q⟩ := q
    obtain ⟨a, c, ea, es⟩ := R.slots i _ hs
    obtain ⟨_, _, ns, l0, m, t, h1, _⟩ := R1.src a c es
    rw [rp.isInt]
    obtain ⟨l', m', t', hp⟩ := SrcPut (v := z) h1 key hz
    obtain ⟨R2, g2⟩ := R1.srcPut es (l := l') (m := m') (t := t')
    exact ⟨.ref a, join_some ea, a, _, rfl, hp, l.nx own ρ σ _ R2 (R.evo (g1.trans g2)) q⟩⟩
/-- cells = source["cells"]; while source["left"] < 2 and len(cells) > 0: source["left"] = cells.pop() -/
def rDrain (i j : Nat) (rr : RS) : RS := fun D ρ => ρ[i]? = some .src ∧ i ≠ j ∧ j < ρ.length ∧ rr D (ρ.set j .emp)
theorem s_drainA (i j : Nat) {y x : Str} {rest : List Stmt} {rr : RS} {k1 k2 k3 k4 k5 : Nat} {p1 p2 p3 p4 p5 p6 p7 p8 p9 q1 q2 q3 q4 q5 q6 q7 q8 q9 r1 r2 r3 r4 r5 r6 : Pos} (hpo : PassesOwn (model X.prog X.w) X.A X.env X.xe) (hu : X.A.units + 1 < cLine) (hml : X.mg "len" = none) (hNd : X.N.Nodup) (h2 : DSs X rest rr)
    (hN : X.N[i]? = some y := by rfl) (hM : X.N[j]? = some x := by rfl) (hv : X.env.scope.names.lookup y = some .local := by rfl) (hw : X.env.scope.names.lookup x = some .local := by rfl) (hyd : (y == ("__debug__" : Str)) = false := by decide) (hcd : (y == ("__classdict__" : Str)) = false := by decide)
    (hxd : (x == ("__debug__" : Str)) = false := by decide) (hxc : (x == ("__classdict__" : Str)) = false := by decide) (hgl : Gl X "len" := by rfl)
    (hs1 : swapsWith (.Subscript (.Name y p2) (.Constant (.str "cells") k1 p3) p4) (some (.Name x p5)) p1.line X.env = pure false := by rfl)
    (hs2 : swapsWith (.Call (.Attribute (.Name x r1) "pop" r2) [] [] r3) (some (.Subscript (.Name y r4) (.Constant (.str "left") k5 r5) r6)) q9.line X.env = pure false := by rfl)
    (hse : starEach [.Name x q5] X.env = (false, eval (.Name x q5) X.env) :: starEach [] X.env := by rfl) (hpl : (backTo q6 (starEach [] X.env)).any (·.1) = false := by rfl)
    (hb : attributeBase (.Name x r1) "pop" X.env (eval (.Name x r1) X.env) = eval (.Name x r1) X.env := by rfl) (hli : (r2.endLine == r3.line) = true := by rfl) :
    DSs X (.Assign [.Name x p5] (.Subscript (.Name y p2) (.Constant (.str "cells") k1 p3) p4) p1 ::
      .While (.BoolOp .And [.Compare (.Subscript (.Name y p6) (.Constant (.str "left") k2 p7) p8) [.Lt] [.Constant (.int 2) k3 p9] q1, .Compare (.Call (.Name "len" q4) [.Name x q5] [] q6) [.Gt] [.Constant (.int 0) k4 q7] q2] q3)
        [.Assign [.Subscript (.Name y r4) (.Constant (.str "left") k5 r5) r6] (.Call (.Attribute (.Name x r1) "pop" r2) [] [] r3) q9] [] q8 :: rest) (rDrain i j rr) := by
  obtain ⟨ts2, pp2, qq2⟩ := h2.ex
  have py : ∀ {p : Pos}, PE X (.Name y p) (tVar i) := fun {p} => pe_var hN (.inl hv) hyd hcd
  have px : ∀ {p : Pos}, PE X (.Name x p) (tVar j) := fun {p} => pe_var hM (.inl hw) hxd hxc
  refine ⟨_, pss_cons (ps_set hNd hM (.inl hw) (pe_dget hu py pe_str (fun _ _ => rfl)) hs1 (.inr hw)) (pss_cons (ps_while hpo (PW.pt (pw_and (pt_cmpR op_lt (pe_dget hu py pe_str (fun _ _ => rfl)) pe_int (nomark _))
    (pw_and1 (pt_cmpR op_gt (pe_callB call_len hgl hml (by rfl) (pa_cons px pa_nil hse) (by decide) (by decide) hse hpl) pe_int (nomark _)))))
    (pss_one (ps_dput hu py pe_str (pe_bm0 PySem.F.plainAttrs_list PySem.F.slot_list_pop PySem.F.type_list_pop mt_pop px hb hli) hs2))) pp2), fun Φ own ρ σ H D E R h l => ?_⟩
  obtain ⟨hs, hij, hjl, h⟩ := h
  obtain ⟨a, c, ea, es⟩ := R.slots i _ hs
  obtain ⟨_, _, ns, l0, m0, t0, h1, hc, hz⟩ := R.src a c es
  have ji : (σ.set j (some (.ref c)))[i]? = some (some (.ref a)) := by rw [List.getElem?_set_ne (fun z => hij z.symm)]; exact join_some ea
  have jl : j < σ.length := by rw [← R.lr]; exact hjl
  have jj : (σ.set j (some (.ref c)))[j]? = some (some (.ref c)) := List.getElem?_set_self jl
  refine ⟨.ref a, join_some ea, a, _, rfl, (SrcGet (ns := ns) h1).1, ?_⟩
  have R1 := R.setEmp j (some (.ref c))
  let W : Nat → L2.St → Hp → Prop := fun m σ' H' => σ' = σ.set j (some (.ref c)) ∧ Rel X.ct Φ own (ρ.set j .emp) (σ.set j (some (.ref c))) H' ∧ Grow Φ H H' ∧ ∃ (ns' : List Int) (l' mm t' : Int), H' a = some (.dK [(Sum.inr "cells", .ref c), (Sum.inr "left", .int l'), (Sum.inr "mixed", .int mm), (Sum.inr "turn", .int t')]) ∧
    H' c = some (.lst (ns'.map V.int)) ∧ ns'.length ≤ 63 ∧ ns'.length = m
  refine ⟨W, ⟨ns.length, rfl, R1, Grow.refl, ns, l0, m0, t0, h1, hc, hz, rfl⟩, ?_⟩
  rintro m σ' H' ⟨rfl, R', g', ns', l', mm, t', e1, e2, z', em⟩
  have fin : ts2 E (σ.set j (some (.ref c))) H' := qq2 Φ own _ _ H' D E R' h (l.later (R1.evo g'))
  refine ⟨.ref a, ji, a, _, rfl, (SrcGet (ns := ns') e1).2.1, l', 2, rfl, rfl, _, rfl, ?_⟩
  by_cases hlt : l' < 2
  · rw [decide_eq_true hlt]; dsimp -zeta only; rw [if_pos rfl]
    refine ⟨.ref c, jj, .ref c, ns'.length, rfl, .inl ⟨_, .inl (.inl e2), by simp⟩, ns'.length, 0, rfl, rfl, _, rfl, ?_⟩
    by_cases hgt : 0 < ns'.length
    · rw [decide_eq_true (show ((ns'.length : Int)) > 0 by omega)]; dsimp -zeta only; rw [if_pos rfl]
      refine ⟨fun σ3 H3 => ∃ m', m' < m ∧ W m' σ3 H3, fun σ3 H3 q => q, ?_⟩
      have hlast : (ns'.map V.int)[(ns'.map V.int).length - 1]? = some (.int (ns'.getLast (List.ne_nil_of_length_pos hgt))) := by
        rw [List.length_map, List.getElem?_map, ← List.getLast?_eq_getElem?, List.getLast?_eq_getLast (List.ne_nil_of_length_pos hgt)]
        rfl
      refine ⟨.ref c, jj, .inl ⟨rfl, _, .inl (.inl e2)⟩, c, _, _, rfl, rfl, e2, hlast, ?_⟩
      have hd : (ns'.map V.int).dropLast = ns'.dropLast.map V.int := by rw [List.map_dropLast]
      rw [hd]
      obtain ⟨R2, g2⟩ := R'.srcPop es (ns := ns'.dropLast) e1 (by rw [List.length_dropLast]; omega)
      have hca : a ≠ c := fun z => by rw [z, e2] at e1; cases e1
      have e1' : upd H' c (.lst (ns'.dropLast.map V.int)) a = some (.dK [(Sum.inr "cells", .ref c), (Sum.inr "left", .int l'), (Sum.inr "mixed", .int mm), (Sum.inr "turn", .int t')]) := by rw [upd_ne hca]; exact e1
      have hp := DPut.k (k := Sum.inr "left") (v := .int (ns'.getLast (List.ne_nil_of_length_pos hgt))) e1' (by show 4 < sizeLine; decide)
      obtain ⟨R3, g3⟩ := R2.srcPut es (l := ns'.getLast (List.ne_nil_of_length_pos hgt)) (m := mm) (t := t')
      refine ⟨.ref a, ji, a, _, rfl, hp, m - 1, by omega, rfl, R3, (g'.trans g2).trans g3, ns'.dropLast, _, mm, t', upd_same, ?_, by rw [List.length_dropLast]; omega, by rw [List.length_dropLast]; omega⟩
      exact (upd_ne (Ne.symm hca)).trans upd_same
    · rw [decide_eq_false (show ¬ ((ns'.length : Int)) > 0 by omega)]; dsimp -zeta only; rw [if_neg Bool.false_ne_true]
      exact fin
  · rw [decide_eq_false hlt]; dsimp -zeta only; rw [if_neg Bool.false_ne_true, if_neg Bool.false_ne_true]
    exact fin
end
/-- the pick: any number from 0 on below m -/
def FPick : DSp := fun ds Q => match ds with
  | [.int m] => m.natAbs < 2 ^ 8000 ∧ ∀ r : Int, 0 ≤ r → (r < m ∨ r = 0) → Q (.int r)
  | _ => False
section
variable {X : Cx} {pos : Pos}
/-- return [x.pop(pick(source, len(x))) for lap in range(len(x))] -/
def rMixed (i j : Nat) : RS := fun Dn ρ => ρ[i]? = some .src ∧ ∃ ds : List D, ρ[j]? = some (.own (.lst ds)) ∧ ds.length ≤ 1000 ∧ ∀ zs : List D, zs.Perm ds → Dn.rt (.lst zs)
theorem wipeE_ne {ρ : En} {j : Nat} : ∀ {vs : List Nat}, j ∉ vs → (wipeE ρ vs)[j]? = ρ[j]?
  | [], _ => rfl
  | v :: vs, h => by
    rw [List.mem_cons, not_or] at h
    unfold wipeE
    rw [List.getElem?_set_ne (fun z => h.1 z.symm), wipeE_ne h.2]
theorem set_id {α : Type} : ∀ {l : List α} {j : Nat} {x : α}, l[j]? = some x → l.set j x = l
  | [], _, _, h => by simp at h
  | a :: l, 0, x, h => by simp at h; subst h; rfl
  | a :: l, j + 1, x, h => by simp at h; simp [set_id h]
theorem perm_erase {α : Type} : ∀ {l : List α} {i : Nat} (h : i < l.length), (l[i] :: l.eraseIdx i).Perm l
  | [], _, h => by simp at h
  | a :: l, 0, h => by simp
  | a :: l, i + 1, h => by
    simp only [List.getElem_cons_succ, List.eraseIdx_cons_succ]
    exact (List.Perm.swap _ _ _).trans (List.Perm.cons a (perm_erase (by simpa using h)))
theorem seqIx {r : Int} {n : Nat} (h0 : 0 ≤ r) (h : r < n) : seqIndex? r n = some r.toNat := seqIndex_of h0 (by omega)
theorem Reps.erase {K : Ct} {B : Addr → Prop} {H : Hp} {vs : List V} {ds : List D} (h : Reps K B H vs ds) (i : Nat) : Reps K B H (vs.eraseIdx i) (ds.eraseIdx i) := by
  induction ds generalizing vs i with
  | nil => cases h; exact .nil
  | cons d ds ih =>
    cases h with
    | cons r t =>
      cases i with
      | zero => exact t
      | succ i => exact .cons r (ih t i)
theorem dsr_mixed {K : Ct} {i j l : Nat} {own0 : List (Str × Nat)} {tcall : TE} (hl : l ∈ own0.map (·.2)) (hij : j ∉ own0.map (·.2) ∧ i ∉ own0.map (·.2)) (hp : DEr K false tcall (rCallS i FPick (raCons (rCl cLen (raCons (rB j) raNil)) raNil))) {tlen : TA} (hlen : DAr K false 1 tlen (raCons (rCl cLen (raCons (rB j) raNil)) raNil)) :
    DSr K (tRet (tLc (iRng1 tlen) (gName l) tYes (tBM K.K "list" rPopAt (tVar j) (tCons tcall tNil)) (own0.map (·.2)))) (rMixed i j) := by
  intro Φ own ρ σ H Dn E R h lk
  obtain ⟨hs, ds, hj, hz, hD⟩ := h
  have hj' : j < ρ.length := by
    rcases Nat.lt_or_ge j ρ.length with z | z
    · exact z
    · rw [List.getElem?_eq_none z] at hj; cases hj
  refine hlen Φ own ρ σ H _ _ R (show raCons (rCl cLen (raCons (rB j) raNil)) raNil ρ (fun zs => zs = [.int ds.length]) from ?_) fun vs H1 zs R1 g1 rp hl1 q => ?_
  · show rB j ρ _
    unfold rB
    rw [hj]
    rfl
  subst q
  cases rp with
  | cons r t =>
    cases t
    rw [r.isInt]
    refine ⟨ds.length, rfl, by omega, by omega, ?_⟩
    intro Dl hn
    have ap : ∀ (k : Nat) (e : D), ρ[k]? = some (.own e) → σ[k]? ≠ some (some (.ref Dl)) := fun k e hk hz => by
      obtain ⟨a, ha, m, _⟩ := R1.ownAt hk
      rw [ha] at hz; cases hz
      exact mut_some (R1.ownMut m) hn
    have el : (ds.length : Int).toNat = ds.length := by omega
    rw [el]
    refine lc_it (walk_range (lo := 0) (n := ds.length)) (fun k H' => k ≤ ds.length ∧ ∃ (va : List V) (dr da : List D), H' Dl = some (.lst va) ∧ Reps K (Φ.B (Dl :: own) true) H' va da ∧ Rel K Φ (Dl :: own) (ρ.set j (.own (.lst dr))) σ H' ∧ va.length = k ∧ dr.length + k = ds.length ∧ (da ++ dr).Perm ds)
      ⟨Nat.zero_le _, [], ds, [], upd_same, .nil, by rw [set_id hj]; exact R1.add hn trivial, rfl, rfl, List.Perm.refl _⟩ (fun _ _ _ _ => trivial) (fun k x H' H2 hk p y => ?_) fun H' p => ?_
    · obtain ⟨_, va, dr, da, eD, ra, R', hva, hdr, hperm⟩ := p
      obtain ⟨rfl, rfl⟩ := y
      have R3 := (R'.wiped (own0.map (·.2))).setVal l (v := .int (0 + (k : Int))) (d := .int (0 + (k : Int))) (.int _)
      have hlen0 : 0 < dr.length := by omega
      have gi : ((wipeE (ρ.set j (.own (.lst dr))) (own0.map (·.2))).set l (.val (.int (0 + (k : Int)))))[i]? = some .src := by
        rw [List.getElem?_set_ne (fun z => hij.2 (by rw [← z]; exact hl)), wipeE_ne hij.2, List.getElem?_set_ne (fun z => by subst z; rw [hs] at hj; cases hj)]; exact hs
      have gj : ((wipeE (ρ.set j (.own (.lst dr))) (own0.map (·.2))).set l (.val (.int (0 + (k : Int)))))[j]? = some (.own (.lst dr)) := by
        rw [List.getElem?_set_ne (fun z => hij.1 (by rw [← z]; exact hl)), wipeE_ne hij.1, List.getElem?_set_self hj']
      have sj : ((wipe σ (own0.map (·.2))).set l (some (.int (0 + (k : Int)))))[j]? = σ[j]? := by
        rw [List.getElem?_set_ne (fun z => hij.1 (by rw [← z]; exact hl)), wipe_get, if_neg (fun z => hij.1 z.1)]
      obtain ⟨ar, har, mar, vr, er, hzr, rr⟩ := R'.ownAt (j := j) (List.getElem?_set_self hj')
      refine ⟨wipe_ext (is := [l]) (List.length_set ..) (fun q hq => List.getElem?_set_ne fun z => hq (by rw [z]; exact List.mem_singleton.mpr rfl)) (fun q hq => by rw [List.mem_singleton.mp hq]; exact hl), ?_⟩
      show tBM K.K "list" rPopAt (tVar j) (tCons tcall tNil) _ _ _
      refine ⟨.ref ar, by rw [sj]; exact har, .inl ⟨rfl, vr, .inl (.inl er)⟩, ?_⟩
      refine hp Φ (Dl :: own) _ _ H2 (fun d => ∃ r : Int, d = .int r ∧ 0 ≤ r ∧ r < dr.length) _ R3 ⟨gi, ?_⟩ fun v H4 d R4 g4 rv q => ?_
      · show rB j _ _
        unfold rB
        rw [gj]
        refine ⟨Nat.lt_of_lt_of_le (m := 2 ^ 10) (by omega) (Nat.pow_le_pow_right (by decide) (by decide)), fun r h0 h1 => ⟨r, rfl, h0, ?_⟩⟩
        rcases h1 with h1 | h1
        · exact h1
        · omega
      obtain ⟨r, rfl, h0, h1⟩ := q
      rw [rv.isInt]
      have er4 := g4 ar _ (R'.ownNsx mar) er
      have hlr : vr.length = dr.length := rr.length
      have hr : r.toNat < vr.length := by omega
      have hgv : vr[r.toNat]? = some vr[r.toNat] := List.getElem?_eq_getElem hr
      refine ⟨ar, vr, r, r.toNat, _, rfl, rfl, er4, by omega, by omega, seqIx h0 (by omega), hgv, ?_⟩
      have R5 : Rel K Φ (Dl :: own) (ρ.set j (.own (.lst dr))) σ H4 := R'.grow g4 fun a c e => (R4.src a c e).2.2
      have rr4 := R'.reps g4 rr
      obtain ⟨d0, hd0, rp0⟩ := rr4.get hgv
      have hd1 : r.toNat < dr.length := by omega
      rw [List.getElem?_eq_getElem hd1] at hd0
      obtain ⟨R6, _⟩ := R5.wLst (i := j) (a := ar) (vs := vr.eraseIdx r.toNat) (ds := dr.eraseIdx r.toNat) (List.getElem?_set_self hj') har (by rw [List.length_eraseIdx]; split <;> omega) (rr4.erase _)
      rw [List.set_set] at R6
      have hne : Dl ≠ ar := fun z => by
        have := ap j _ hj
        rw [har, z] at this
        exact this rfl
      have eD4 : upd H4 ar (.lst (vr.eraseIdx r.toNat)) Dl = some (.lst va) := by rw [upd_ne hne]; exact g4 Dl _ (R'.ownNsx List.mem_cons_self) eD
      have kp : Keeps (Φ.B (Dl :: own) true) H4 (upd H4 ar (.lst (vr.eraseIdx r.toNat))) := fun q o hb e => by rw [upd_ne fun z => hb.2 (by rw [z]; exact mar)]; exact e
      refine ⟨va, eD4, by rw [hva, sizeLine_eq]; omega, hk, va ++ [vr[r.toNat]], dr.eraseIdx r.toNat, da ++ [d0], upd_same, ?_, ?_, by simp [hva], by rw [List.length_eraseIdx, if_pos hd1]; omega, ?_⟩
      · have k7 : Keeps (Φ.B (Dl :: own) true) (upd H4 ar (.lst (vr.eraseIdx r.toNat))) (upd (upd H4 ar (.lst (vr.eraseIdx r.toNat))) Dl (.lst (va ++ [vr[r.toNat]]))) := fun q o hb e => by rw [upd_ne fun z => hb.2 (by rw [z]; exact List.mem_cons_self)]; exact e
        exact ((((R'.reps g4 ra)).mono kp).append (.cons (rp0.mono kp) .nil)).mono k7
      · refine R6.touch List.mem_cons_self (fun k' e hk' => ?_) (fun q hq => upd_ne hq) (by rw [upd_same]; trivial)
        by_cases hkj : k' = j
        · subst hkj
          rw [har]
          exact fun z => hne (by cases z; rfl)
        · rw [List.getElem?_set_ne (fun z => hkj z.symm)] at hk'
          exact ap k' e hk'
      · have pe : (d0 :: dr.eraseIdx r.toNat).Perm dr := by
          have := perm_erase hd1
          rw [← Option.some.inj hd0]
          exact this
        have : (da ++ [d0] ++ dr.eraseIdx r.toNat).Perm (da ++ dr) := by
          rw [List.append_assoc, List.singleton_append]
          exact List.Perm.append_left da pe
        exact this.trans hperm
    · obtain ⟨_, va, dr, da, eD, ra, R', hva, hdr, hperm⟩ := p
      have e0 : dr = [] := List.eq_nil_of_length_eq_zero (by omega)
      subst e0
      rw [List.append_nil] at hperm
      refine lk.rt (.ref Dl) H' (.lst da) ⟨R'.keep, fun a c e => (R'.src a c e).2.2, .lst (R'.sep Dl List.mem_cons_self).1 eD (by rw [hva, sizeLine_eq]; omega) (ra.wk fun _ h => h.1)⟩ (hD da hperm)
/-- the rule -/
theorem s_mixed (i j l : Nat) {x : Str} {own0 : List (Str × Nat)} {a : Expr} {tcall : TE} {tlen : TA} {scope : Scope} {lap : Str} {p0 p1 p2 p3 p4 p5 p6 : Pos} {callE : Expr} (hc : X.calm = true) (hN : X.N.Nodup) (hm : X.mg "range" = none) (ha : DA X false [a] tlen (raCons (rCl cLen (raCons (rB j) raNil)) raNil))
    (hl : l ∈ own0.map (·.2)) (hij : j ∉ own0.map (·.2) ∧ i ∉ own0.map (·.2)) (ok : BlkOk X.N X.env.scope scope own0) (hgr : Gl X "range" := by rfl)
    (hg : ∀ (s : Shared) (H : Hp) (C : Addr) (cl : List (Str × Addr)) (fp : List Addr), PG (X.blk s H scope (compEnvC scope cl C X.env) fp) (.Name lap p0) (gName l))
    (hp : ∀ (s : Shared) (H : Hp) (C : Addr) (cl : List (Str × Addr)) (fp : List Addr), DE (X.blk s H scope (compEnvC scope cl C X.env) fp) false callE tcall (rCallS i FPick (raCons (rCl cLen (raCons (rB j) raNil)) raNil)))
    (he : ∀ (s : Shared) (H : Hp) (C : Addr) (cl : List (Str × Addr)) (fp : List Addr), PE (X.blk s H scope (compEnvC scope cl C X.env) fp) (.Call (.Attribute (.Name x p1) "pop" p2) [callE] [] p3) (tBM X.K "list" rPopAt (tVar j) (tCons tcall tNil)))
    (hsa : starEach [a] X.env = [(false, eval a X.env)] := by rfl) (hs : ∀ x, foldedSetIterable (.Call (.Name "range" p4) [a] [] p5) X.env x = pure x := by intro _; rfl) :
    DS X (.Return (some (.ListComp (.Call (.Attribute (.Name x p1) "pop" p2) [callE] [] p3) [⟨.Name lap p0, .Call (.Name "range" p4) [a] [] p5, [], 0⟩] scope p6)) pos) (rMixed i j) :=
  ⟨_, ps_ret (pe_lc hc hN (pi_range1 hgr hm ha.pa hsa) ok hg (fun _ _ _ _ _ => pts_nil) he hs), dsr_mixed hl hij (hp X.s_0 X.H_0 0 [] []).rd ha.rd⟩
end
end DL
end
section
set_option maxRecDepth 100000
/-! DTop: the source opened, the law itself. -/
namespace DL
open PySem PySem.Spec L2
open PyProof.Rows (envOfC)

/-- the def that makes the source of the script -/
def spOpen (K : PySem.W.Frag) : Sp := fun vs H Q _ => ∃ (s : Addr) (ns : List Int), vs = [.ref s] ∧ SqL K H s (ns.map V.int) ∧ ns.length ≤ 63 ∧ ∀ a c H', Same H H' → H a = none → H c = none → Src H' a c → Q (.ref a) H'
def spLaw (K : PySem.W.Frag) : Sp := fun vs H Q _ => ∃ (s : Addr) (ns : List Int), vs = [.ref s] ∧ SqL K H s (ns.map V.int) ∧ ns.length ≤ 63 ∧ ∀ H', Q (.bl true) H'
structure Op (P : Program) (w : World) (K : PySem.W.Frag) (mg : Str → Option Value) (base : Heap) (x : Str) (k : Nat) : Prop where
  ex : ∃ (f : Addr) (fd : FuncData) (ps : List Str), mg x = some (.ref f) ∧ PySem.W.keepIn K (.ref f) = true ∧ Binds K fd ps [] ∧ FnG P w K mg base k f fd ps (spOpen K)
theorem Op.up {P : Program} {w : World} {K : PySem.W.Frag} {mg : Str → Option Value} {base : Heap} {x : Str} {j k : Nat} (h : Op P w K mg base x j) (l : j ≤ k) : Op P w K mg base x k := by
  obtain ⟨f, fd, ps, h1, h2, h3, h4⟩ := h.ex
  exact ⟨f, fd, ps, h1, h2, h3, h4.mono l⟩
section
variable {X : Cx} {k : Nat} {x y z : Str} {p p2 pos : Pos}
/-- source = open(script) -/
theorem ps_open (O : Op X.prog X.w X.K X.mg X.base x k) (hr : RoomG k X.A) (hNd : X.N.Nodup) (hg : Gl X x) (h0 : X.N[0]? = some y) (h1 : X.N[1]? = some z) (hv : X.env.scope.names.lookup y = some .local) (hw : X.env.scope.names.lookup z = some .local)
    (hyd : (y == ("__debug__" : Str)) = false := by decide) (hcd : (y == ("__classdict__" : Str)) = false := by decide) (hdb : (x == ("__debug__" : Str)) = false := by decide)
    (he : starEach [.Name y p] X.env = (false, eval (.Name y p) X.env) :: starEach [] X.env := by rfl) (hpl : (backTo pos (starEach [] X.env)).any (·.1) = false := by rfl)
    {p3 p4 : Pos} (hs : swapsWith (.Call (.Name x p2) [.Name y p] [] pos) (some (.Name z p3)) p4.line X.env = pure false := by rfl) :
    PS X (.Assign [.Name z p3] (.Call (.Name x p2) [.Name y p] [] pos) p4) (tAsg (tCallG (spOpen X.K) (tCons (tVar 0) tNil)) (gName 1)) := by
  obtain ⟨f, fd, ps, h3, h4, h5, h6⟩ := O.ex
  exact ps_set hNd h1 (.inl hw) (pe_callG h6 hr hg h3 h4 h5 (pa_cons (pe_var h0 (.inl hv) hyd hcd) pa_nil he) hdb he hpl) hs (.inr hw)
end
section
variable {P : Program} {w : World} {K : PySem.W.Frag} {mg : Str → Option Value} {base : Heap} {st : Stmt} {f : Addr} {fd : FuncData} {N : List Str} {k : Nat}
theorem fn_law {q : Str} (F : Fun K q q st f fd) (S : FnScope N ["script"] (defScope st)) (hN : 2 ≤ N.length)
    (body : ∀ (cdv : Value) (A : Around) (outer : List Env) (s : Shared) (H : Hp) (E : XK), RoomG k (A.deeper (envOfC q (defScope st) s.heap.objs.size f cdv)) →
      ∃ st1 rest r, defBody st = st1 :: rest ∧ PS (cxOf CX0 P w K mg base N q (defScope st) f cdv A outer s H E).nox st1 (tAsg (tCallG (spOpen K) (tCons (tVar 0) tNil)) (gName 1)) ∧
        DSs (cxOf CX0 P w K mg base N q (defScope st) f cdv A outer s H E).nox rest r ∧ r { nx := fun _ => False, rt := fun d => d = .bl true } (Sl.emp :: Sl.src :: List.replicate (N.length - 2) Sl.emp)) :
    FnG P w K mg base (k + 1) f fd ["script"] (spLaw K) := by
  refine fun_G F S (fun vs H Q E h => ?_) (fun cdv A outer s H vs Q E hr h => ?_)
  · obtain ⟨a, ns, rfl, _⟩ := h; rfl
  · obtain ⟨a, ns, rfl, hS, hz, q⟩ := h
    obtain ⟨st1, rest, r, hbd, p1, hr', hq⟩ := body cdv A outer s H E hr
    obtain ⟨ts, hts, hd⟩ := hr'.ex
    rw [hbd]
    refine ⟨_, pss_cons p1 hts, ?_⟩
    have hst : L2.start N [V.ref a] = some (.ref a) :: none :: List.replicate (N.length - 2) none := by
      unfold L2.start
      have : N.length - 1 = (N.length - 2) + 1 := by omega
      simp only [List.map_cons, List.map_nil, List.length_cons, List.length_nil, Nat.zero_add, this, List.replicate_succ, List.cons_append, List.nil_append]
    rw [hst]
    refine ⟨.ref a, rfl, a, ns, rfl, hS, hz, fun a' c' H' sm n1 n2 src => ?_⟩
    refine hd ⟨fun x => x ≠ a' ∧ x ≠ c', some (a', c'), H'⟩ [] (Sl.emp :: Sl.src :: List.replicate (N.length - 2) Sl.emp) _ H' { nx := fun _ => False, rt := fun d => d = .bl true } _ ?_ hq ?_
    · refine ⟨fun i sl h => ?_, fun i j d e y h1 _ _ _ => ?_, fun x h => ?_, fun x h => by simp at h, fun a c e => ?_, fun p o e _ => e, by simp⟩
      · cases i with
        | zero =>
          have e : sl = .emp := by simpa using h.symm
          subst e; trivial
        | succ i =>
          cases i with
          | zero =>
            have e : sl = .src := by simpa using h.symm
            subst e
            exact ⟨a', c', rfl, rfl⟩
          | succ i =>
            rw [List.getElem?_cons_succ, List.getElem?_cons_succ, List.getElem?_replicate] at h
            split at h
            · cases h; trivial
            · cases h
      · cases i with
        | zero => simp at h1
        | succ i =>
          cases i with
          | zero => simp at h1
          | succ i =>
            rw [List.getElem?_cons_succ, List.getElem?_cons_succ, List.getElem?_replicate] at h1
            split at h1 <;> cases h1
      · have hx : x = a' ∨ x = c' := Classical.byContradiction fun z => h ⟨⟨fun e => z (.inl e), fun e => z (.inr e)⟩, by simp⟩
        obtain ⟨ns', l, m, t, e1, e2, _⟩ := src
        rcases hx with rfl | rfl
        · rw [e1]; trivial
        · rw [e2]; trivial
      · cases e
        exact ⟨fun z => z.1 rfl, fun z => z.2 rfl, src⟩
    · refine ⟨fun _ _ _ _ _ _ h => h.elim, fun _ _ _ _ _ _ h => h.elim, fun _ _ _ _ _ _ h => h.elim, fun v H2 d hf h => ?_⟩
      subst h
      have e : v = .bl true := hf.2.2.isBl
      subst e
      exact q H2
end
theorem RoomG.u70 {k : Nat} {A : Around} (h : RoomG k A) : A.units + 70 < cLine := by have := h.u; omega
theorem RoomG.u64 {k : Nat} {A : Around} (h : RoomG k A) : A.units + 64 < cLine := by have := h.u; omega
theorem RoomG.u1 {k : Nat} {A : Around} (h : RoomG k A) : A.units + 1 < cLine := by have := h.u; omega
def FMixed : DSp := fun ds Q => match ds with
  | [d] => dS (fun xs => xs.length ≤ 1000 ∧ ∀ zs : List D, zs.Perm xs → Q (.lst zs)) d
  | _ => False
def FOf : DSp := fun ds Q => match ds with
  | [d] => dS (fun xs => (xs ≠ [] ∧ xs.length ≤ 1000) ∧ ∀ x ∈ xs, Q x) d
  | _ => False
section
variable {X : Cx} {c : Expr} {ta : TA} {ra : RAs} {tc : TE} {rc : RE} {pos : Pos}
/-- x, y, z = a, b, a new list -/
theorem s_par3O (i j l : Nat) {x y z : Str} {a b : Expr} {px py pz pt : Pos} {kt k2 pt2} {te te2 : TE} {re re2 : RE} (hcm : X.calm = true) (hN : X.N.Nodup) (h1 : DE X true a te re) (h2 : DE X true b te2 re2) (h3 : DF X c tc rc) (hi : X.N[i]? = some x := by rfl) (hj : X.N[j]? = some y := by rfl) (hl : X.N[l]? = some z := by rfl)
    (hij : i ≠ j := by decide) (hil : i ≠ l := by decide) (hjl : j ≠ l := by decide) (hx : X.env.scope.names.lookup x = some .local := by rfl) (hy : X.env.scope.names.lookup y = some .local := by rfl) (hz : X.env.scope.names.lookup z = some .local := by rfl)
    (e1 : starEach [a, b, c] X.env = (false, eval a X.env) :: starEach [b, c] X.env := by rfl) (e2 : starEach [b, c] X.env = (false, eval b X.env) :: starEach [c] X.env := by rfl) (e3 : starEach [c] X.env = (false, eval c X.env) :: starEach [] X.env := by rfl)
    (hw : swappedStores [.Tuple [.Name x px, .Name y py, .Name z pz] kt pt] (.Tuple [a, b, c] k2 pt2) X.env = pure (some [x, y, z]) := by rfl)
    (hs : swapsWithSole [.Tuple [.Name x px, .Name y py, .Name z pz] kt pt] (.Tuple [a, b, c] k2 pt2) pos.line X.env = pure false := by rfl) :
    DS X (.Assign [.Tuple [.Name x px, .Name y py, .Name z pz] kt pt] (.Tuple [a, b, c] k2 pt2) pos) (rPar3O i j l (raCons re (raCons re2 raNil)) rc) :=
  ⟨_, ps_par3 hcm hN hi hj hl hij hil hjl hx hy hz (pa_cons h1.pe (pa_cons h2.pe (pa_cons h3.pe pa_nil e3) e2) e1) hw hs, fun Φ own ρ σ H Dn E R h lk => by
    refine h1.rd Φ own ρ σ H _ _ R h fun v1 H1 d1 R1 g1 r1 q1 => h2.rd Φ own ρ σ H1 _ _ R1 q1 fun v2 H2 d2 R2 g2 r2 q2 => h3.rd Φ own ρ σ H2 _ _ R2 q2 fun p H3 d3 R3 g3 n ok q3 => ?_
    refine ⟨v1, v2, .ref p, rfl, ?_⟩
    have r1' := R1.rep g2 r1
    have S1 := (R2.setVal i r1').setVal j r2
    have S3 := (R3.setVal i (r1'.mono' (Rel.B_to n) (R2.keeps g3))).setVal j (r2.mono' (Rel.B_to n) (R2.keeps g3))
    exact lk.nx (p :: own) _ _ H3 (S1.setOwn n S3 ok l) ((R.evo ((g1.trans g2))).trans fun a o hb e => ⟨g3 a o (R2.sxB hb) e, Rel.B_to n a hb (by rw [e]; exact fun z => nomatch z)⟩) q3⟩
end
end DL
end
section
set_option maxRecDepth 100000
/-! DK: the rules with the written part and the world named (so that they may stand within a comprehension). -/
namespace DL
open PySem PySem.Spec L2
section
variable {X : Cx} {b : Bool} {e e2 e3 tg : Expr} {es : List Expr} {te : TE} {re : RE} {t : TA} {rs : RAs} {pos p : Pos}
theorem kIxU (K : Ct) (h : X.ct = K := by rfl) : IxR X (rIxU K.K) := by subst h; exact ix_U
theorem kIxA (K : Ct) (hu : X.A.units + 64 < cLine) (h : X.ct = K := by rfl) : IxR X (rIxA K) := by subst h; exact ix_A hu
theorem kAdd (K : Ct) (h : X.ct = K := by rfl) : OpR X (binaryOp .Add) (rAddU K.K) := by subst h; exact op_addU
theorem kMul (K : Ct) (h : X.ct = K := by rfl) : OpR X (binaryOp .Mult) (rMulA K.K) := by subst h; exact op_mulA
theorem kEq (K : Ct) (hu : X.A.units + 64 < cLine) (h : X.ct = K := by rfl) : OpR X (compareOp .Eq) (rEqD K.K) := by subst h; exact op_eqD hu
theorem kNe (K : Ct) (hu : X.A.units + 64 < cLine) (h : X.ct = K := by rfl) : OpR X (compareOp .NotEq) (rNeD K.K) := by subst h; exact op_neD hu
theorem kLen (K : Ct) (h : X.ct = K := by rfl) : CallR X (.builtin "len") (fun xs H Q => ∃ x n, xs = [x] ∧ LenV K.K x H n ∧ Q (.int n) H) := by subst h; exact call_len
theorem kTuple (K : Ct) (h : X.ct = K := by rfl) : CallR X (.type "tuple") (fun xs H Q => ∃ p ys, xs = [.ref p] ∧ ((SqL K.K H p ys ∧ ∀ l, H l = none → Q (.ref l) (upd H l (.tup ys))) ∨ (SqT K.K H p ys ∧ Q (.ref p) H))) := by subst h; exact call_tuple_of
theorem k_max (K : Ct) (hc : X.calm = true) (hm : X.mg "max" = none) (ha : DA X b [e] t rs) (h : X.ct = K := by rfl) (hg : Gl X "max" := by rfl) (he : starEach [e] X.env = (false, eval e X.env) :: starEach [] X.env := by rfl) (hpl : (backTo pos (starEach [] X.env)).any (·.1) = false := by rfl) :
    DE X b (.Call (.Name "max" p) [e] [] pos) (tCB (rMax K.K) t) (rCl cMax rs) := by subst h; exact e_max hc hm ha hg he hpl
theorem k_maxD (K : Ct) {kpos : Pos} {ek : Expr} {tk : TE} {rk : RE} (hc : X.calm = true) (hu : X.A.units + 70 < cLine) (hm : X.mg "max" = none) (ha : DA X b [e] t rs) (hk : DE X b ek tk rk) (h : X.ct = K := by rfl) (hg : Gl X "max" := by rfl)
    (he : backTo pos (starEach [e] X.env) = (false, eval e X.env) :: backTo pos (starEach [] X.env) := by rfl) (hpl : (backTo pos (starEach [e] X.env)).any (·.1) = false := by rfl)
    (hall : (backToKw pos (keywordEach [⟨some "default", ek, kpos⟩] X.env)).all (·.1.isSome) = true := by rfl) (hnone : (backToKw pos (keywordEach [⟨some "default", ek, kpos⟩] X.env)).any (·.1.isNone) = false := by rfl) (hks : (backToKw pos (keywordEach [⟨some "default", ek, kpos⟩] X.env)).filterMap (·.1) = [Str.ofString "default"] := by rfl) :
    DE X b (.Call (.Name "max" p) [e] [⟨some "default", ek, kpos⟩] pos) (tCKw (rMaxDf K.K) t (tCons tk tNil)) (rMaxD rs (raCons rk raNil)) := by subst h; exact e_maxD hc hu hm ha hk hg he hpl hall hnone hks
theorem k_repr (K : Ct) {k : Nat} (hr : RoomG k X.A) (hd : X.base.NoDigits) (hm : X.mg "repr" = none) (ha : DA X b [e] t rs) (h : X.ct = K := by rfl) (hg : Gl X "repr" := by rfl) (he : starEach [e] X.env = (false, eval e X.env) :: starEach [] X.env := by rfl) (hpl : (backTo pos (starEach [] X.env)).any (·.1) = false := by rfl) :
    DE X b (.Call (.Name "repr" p) [e] [] pos) (tCB (rRepr K) t) (rCl cRepr rs) := by subst h; exact e_repr hr hd hm ha hg he hpl
theorem k_sorted (K : Ct) (hc : X.calm = true) (hu : X.A.units + 70 < cLine) (hm : X.mg "sorted" = none) (ha : DA X b [e] t rs) (h : X.ct = K := by rfl) (hg : Gl X "sorted" := by rfl)
    (he : starEach [e] X.env = (false, eval e X.env) :: starEach [] X.env := by rfl) (hpl : (backTo pos (starEach [] X.env)).any (·.1) = false := by rfl) :
    DF X (.Call (.Name "sorted" p) [e] [] pos) (tCB (rSrt K) t) (rSorted rs) := by subst h; exact e_sorted hc hu hg hm ha he hpl
theorem k_sortIt (K : Ct) {o : Expr} {to : TE} {ro : RE} {apos cpos : Pos} (hc : X.calm = true) (hu : X.A.units + 70 < cLine) (hm : X.mg "sorted" = none) (ho : DE X b o to ro) (h : X.ct = K := by rfl) (hg : Gl X "sorted" := by rfl)
    (hbase : attributeBase o "items" X.env (eval o X.env) = eval o X.env := by rfl) (hline : (apos.endLine == cpos.line) = true := by rfl)
    (he : starEach [.Call (.Attribute o "items" apos) [] [] cpos] X.env = (false, eval (.Call (.Attribute o "items" apos) [] [] cpos) X.env) :: starEach [] X.env := by rfl) (hpl : (backTo pos (starEach [] X.env)).any (·.1) = false := by rfl) :
    DF X (.Call (.Name "sorted" p) [.Call (.Attribute o "items" apos) [] [] cpos] [] pos) (tCB (rSrtIt K) (tCons (tBMX K.w (rItemsN K.w) to tNil) tNil)) (rSortIt ro) := by subst h; exact e_sortIt hc hu hg hm ho hbase hline he hpl
theorem k_list (K : Ct) (hm : X.mg "list" = none) (ha : DA X true [e] t rs) (h : X.ct = K := by rfl) (hg : Gl X "list" := by rfl) (he : starEach [e] X.env = (false, eval e X.env) :: starEach [] X.env := by rfl) (hpl : (backTo pos (starEach [] X.env)).any (·.1) = false := by rfl) :
    DF X (.Call (.Name "list" p) [e] [] pos) (tCB (fun xs H Q => ∃ p ys, xs = [.ref p] ∧ (SqL K.K H p ys ∨ SqT K.K H p ys) ∧ ∀ l, H l = none → Q (.ref l) (upd H l (.lst ys))) t) (rListOf rs) := by subst h; exact e_list hm ha hg he hpl
theorem k_rev (K : Ct) {k : Nat} {p1 p2 p3 : Pos} (he : DE X true e te re) (h : X.ct = K := by rfl) : DF X (.Subscript e (.Slice none none (some (.UnaryOp .USub (.Constant (.int 1) k p1) p2)) p3) pos) (tRevL K.K te) (rRev re) := by subst h; exact e_rev he
theorem k_star (K : Ct) (ha : DE X b e te re) (hs : DAs X b es t rs) (h0 : X.ct = K := by rfl) (h : starEach (.Starred e p :: es) X.env = (true, eval e X.env) :: starEach es X.env := by rfl) : DAs X b (.Starred e p :: es) (StX.tStar K.K te t) (raStar re rs) := by subst h0; exact as_star ha hs h
theorem k_dict0 (K : Ct) (h : X.ct = K := by rfl) : DF X (.Dict [] [] pos) (tDict0 K.w) (rC (.dN [])) := by subst h; exact e_dict0N
theorem k_get (K : Ct) {o : Expr} {to : TE} {ro : RE} {apos cpos : Pos} (hu : X.A.units + 70 < cLine) (ho : DE X b o to ro) (ha : DA X b [e, e2] t rs) (h : X.ct = K := by rfl)
    (hbase : attributeBase o "get" X.env (eval o X.env) = eval o X.env := by rfl)
    (hfew : ((backTo cpos (starEach [e, e2] X.env)).all (fun x => !x.1) && (backToKw cpos (keywordEach [] X.env)).all (fun x => x.1.isSome)
      && decide ([e, e2].length + ([] : List Keyword).length + (if ([] : List Keyword).isEmpty then 0 else 1) < 30)) = true := by rfl)
    (hline : (apos.endLine == cpos.line) = true := by rfl) (hs : starEach [e, e2] X.env = (false, eval e X.env) :: starEach [e2] X.env := by rfl) (hplain : (backTo cpos (starEach [e2] X.env)).any (·.1) = false := by rfl) :
    DE X b (.Call (.Attribute o "get" apos) [e, e2] [] cpos) (tBMX K.w (rGetN K) to t) (rGet ro rs) := by subst h; exact e_get hu ho ha hbase hfew hline hs hplain
/-! targets, what is walked -/
theorem kg_tup (K : Ct) (n : Nat) {k : Nat} {g : TGs} {is : List Nat} {gd : RGs} (hc : X.calm = true) (h : DGs X es g is gd) (h0 : X.ct = K := by rfl)
    (hn : (assignEach es X.env).length = n := by rfl) (hst : (assignEach es X.env).findIdx? (·.1) = none := by rfl) : DG X (.Tuple es k pos) (gTup K.K n g) is (rgTup n gd) := by subst h0; exact g_tup hc h hn hst
theorem kg_seq (K : Ct) (n : Nat) {k : Nat} {g : TGs} {is : List Nat} {gd : RGs} (hc : X.calm = true) (h : DGs X es g is gd) (h0 : X.ct = K := by rfl)
    (hn : (assignEach es X.env).length = n := by rfl) (hst : (assignEach es X.env).findIdx? (·.1) = none := by rfl) : DG X (.Tuple es k pos) (gSeq K.K n g) is (rgSeq n gd) := by subst h0; exact g_seq hc h hn hst
theorem ki_seq (K : Ct) (h : DE X true e te re) (h0 : X.ct = K := by rfl) : DI X true tg e (iSeq K.K te) (riS re) := by subst h0; exact i_seq h
theorem ki_seqB (K : Ct) (h : DE X false e te re) (h0 : X.ct = K := by rfl) : DI X false tg e (iSeq K.K te) (rImmL (riS re)) := by subst h0; exact i_seqB h
variable {elts : List Expr} {kk : Nat} {tpos : Pos}
theorem ki_z2 (K : Ct) (hm : X.mg "zip" = none) (ha : DA X b [e, e2] t rs) (h : X.ct = K := by rfl) (hg : Gl X "zip" := by rfl)
    (hs : starEach [e, e2] X.env = (false, eval e X.env) :: starEach [e2] X.env := by rfl) (hpl : (backTo pos (starEach [e2] X.env)).any (·.1) = false := by rfl) :
    DI X b (.Tuple elts kk tpos) (.Call (.Name "zip" p) [e, e2] [] pos) (iZ2 K.K t) (riZ2 rs) := by subst h; exact i_z2 hm ha hg hs hpl
theorem ki_z3 (K : Ct) (hm : X.mg "zip" = none) (ha : DA X b [e, e2, e3] t rs) (h : X.ct = K := by rfl) (hg : Gl X "zip" := by rfl)
    (hs : starEach [e, e2, e3] X.env = (false, eval e X.env) :: starEach [e2, e3] X.env := by rfl) (hpl : (backTo pos (starEach [e2, e3] X.env)).any (·.1) = false := by rfl) :
    DI X b (.Tuple elts kk tpos) (.Call (.Name "zip" p) [e, e2, e3] [] pos) (iZ3 K.K t) (riZ3 rs) := by subst h; exact i_z3 hm ha hg hs hpl
theorem ki_e (K : Ct) (hm : X.mg "enumerate" = none) (ha : DA X b [e] t rs) (h : X.ct = K := by rfl) (hg : Gl X "enumerate" := by rfl) (hs : starEach [e] X.env = [(false, eval e X.env)] := by rfl) :
    DI X b (.Tuple elts kk tpos) (.Call (.Name "enumerate" p) [e] [] pos) (iEn K.K t) (riE rs) := by subst h; exact i_e hm ha hg hs
theorem ki_items (K : Ct) {o : Expr} {to : TE} {ro : RE} {apos cpos : Pos} (he : DE X b o to ro) (h : X.ct = K := by rfl) (hbase : attributeBase o "items" X.env (eval o X.env) = eval o X.env := by rfl) (hline : (apos.endLine == cpos.line) = true := by rfl) :
    DI X b (.Tuple elts kk tpos) (.Call (.Attribute o "items" apos) [] [] cpos) (iItemsN K.w to) (riItems ro) := by subst h; exact i_itemsN he hbase hline
/-! calls -/
theorem k_call {K : Ct} {x : Str} {k n : Nat} {F : DSp} (D : Df X.prog X.w X.K X.mg X.base x k (spD K n F)) (hr : RoomG k X.A) (ha : DA X b (e :: es) t rs) (h : X.ct = K := by rfl) (hg : Gl X x := by rfl) (hn : (e :: es).length = n := by rfl) (hdb : (x == ("__debug__" : Str)) = false := by decide)
    (he : starEach (e :: es) X.env = (false, eval e X.env) :: starEach es X.env := by rfl) (hpl : (backTo pos (starEach es X.env)).any (·.1) = false := by rfl) :
    DE X b (.Call (.Name x p) (e :: es) [] pos) (tCallG (spD K n F) t) (rCall F rs) := by subst h; exact e_call D hr hg ha hn hdb he hpl
theorem k_callS {K : Ct} {x : Str} {k n : Nat} {F : DSp} (i : Nat) {y : Str} {py : Pos} (D : Df X.prog X.w X.K X.mg X.base x k (spS K n F)) (hr : RoomG k X.A) (ha : DA X b es t rs) (h : X.ct = K := by rfl) (hg : Gl X x := by rfl) (hn : es.length = n := by rfl)
    (hN : X.N[i]? = some y := by rfl) (hv : Vis X.env.scope y := by first | exact Or.inl rfl | exact Or.inr (Or.inl rfl) | exact Or.inr (Or.inr rfl)) (hdb : (x == ("__debug__" : Str)) = false := by decide)
    (hyd : (y == ("__debug__" : Str)) = false := by decide) (hcd : (y == ("__classdict__" : Str)) = false := by decide)
    (he : starEach (.Name y py :: es) X.env = (false, eval (.Name y py) X.env) :: starEach es X.env := by rfl) (hpl : (backTo pos (starEach es X.env)).any (·.1) = false := by rfl) :
    DE X b (.Call (.Name x p) (.Name y py :: es) [] pos) (tCallG (spS K n F) (tCons (tVar i) t)) (rCallS i F rs) := by subst h; exact e_callS i D hr hg ha hn hN hv hdb hyd hcd he hpl
theorem kPop (K : Ct) {o : Expr} {to : TE} {apos cpos : Pos} (ho : PE X o to) (ha : PA X (e :: es) t) (h : X.ct = K := by rfl)
    (hbase : attributeBase o "pop" X.env (eval o X.env) = eval o X.env := by rfl)
    (hfew : ((backTo cpos (starEach (e :: es) X.env)).all (fun x => !x.1) && (backToKw cpos (keywordEach [] X.env)).all (fun x => x.1.isSome)
      && decide ((e :: es).length + ([] : List Keyword).length + (if ([] : List Keyword).isEmpty then 0 else 1) < 30)) = true := by rfl)
    (hline : (apos.endLine == cpos.line) = true := by rfl) (hs : starEach (e :: es) X.env = (false, eval e X.env) :: starEach es X.env := by rfl) (hplain : (backTo cpos (starEach es X.env)).any (·.1) = false := by rfl) :
    PE X (.Call (.Attribute o "pop" apos) (e :: es) [] cpos) (tBM K.K "list" rPopAt to t) := by subst h; exact pe_bm PySem.F.plainAttrs_list PySem.F.slot_list_pop PySem.F.type_list_pop mt_popAt ho ha hbase hfew hline hs hplain
end
end DL
end
section
set_option maxRecDepth 100000
set_option exponentiation.threshold 20000
/-! DShow: how long the repr of data is. -/
namespace DL
open PySem PySem.Spec PyProof.Rows L2

structure Shows (n j : Nat) (d : D) : Prop where
  nod : d.nodict = true
  small : smallP d.pd
  len : d.pd.shown.length ≤ n
  deep : d.pd.depth ≤ j
theorem Shows.mono {n m j i : Nat} {d : D} (h : Shows n j d) (h1 : n ≤ m) (h2 : j ≤ i) : Shows m i d := ⟨h.nod, h.small, Nat.le_trans h.len h1, Nat.le_trans h.deep h2⟩
theorem Shows.ok {n j : Nat} {d : D} (h : Shows n j d) (h1 : n ≤ sizeLine) (h2 : j ≤ 60) : showOk d := ⟨h.nod, h.small, Nat.le_trans h.len h1, Nat.le_trans h.deep h2⟩
theorem shows_int {i : Int} (k : Nat) (h : i.natAbs < 10 ^ k) (hk : k ≤ 4300 := by decide) (h0 : 1 ≤ k := by decide) : Shows (k + 2) 0 (.int i) where
  nod := rfl
  small := by
    simp only [D.pd, smallP]
    exact Nat.lt_of_lt_of_le h (Nat.pow_le_pow_right (by decide) hk)
  len := by
    simp only [D.pd, PyData.shown]
    have e := int_text_length_le10 (k := k) (by omega) h
    rw [PySem.ofString_length]; omega
  deep := by simp only [D.pd, PyData.depth]; exact Nat.le_refl _
theorem shows_bl (b : Bool) : Shows 5 0 (.bl b) where
  nod := rfl
  small := by simp only [D.pd, smallP]
  len := by simp only [D.pd, PyData.shown]; cases b <;> decide
  deep := by simp only [D.pd, PyData.depth]; exact Nat.le_refl _
theorem shows_each {n j : Nat} : ∀ {ds : List D}, (∀ d ∈ ds, Shows n j d) → D.nodicts ds = true ∧ smallPs (D.pds ds) ∧ (∀ t ∈ PyData.shownAll (D.pds ds), t.length ≤ n) ∧ PyData.depthAll (D.pds ds) ≤ j ∧ (PyData.shownAll (D.pds ds)).length = ds.length
  | [], _ => ⟨by simp [D.nodicts], by simp [D.pds, smallPs], by simp [D.pds, PyData.shownAll], by simp [D.pds, PyData.depthAll], by simp [D.pds, PyData.shownAll]⟩
  | d :: ds, h => by
    have h1 := h d List.mem_cons_self
    obtain ⟨a, b, c, e, f⟩ := shows_each fun x hx => h x (List.mem_cons_of_mem _ hx)
    refine ⟨by simp [D.nodicts, h1.nod, a], by simp only [D.pds, smallPs]; exact ⟨h1.small, b⟩, fun t ht => ?_, ?_, ?_⟩
    · simp only [D.pds, PyData.shownAll] at ht
      rcases List.mem_cons.mp ht with rfl | ht
      · exact h1.len
      · exact c t ht
    · simp only [D.pds, PyData.depthAll]
      exact Nat.max_le.mpr ⟨h1.deep, e⟩
    · simp only [D.pds, PyData.shownAll, List.length_cons, f]
theorem join_le {n : Nat} : ∀ {ts : List Str}, (∀ t ∈ ts, t.length ≤ n) → (Str.join ", " ts).length ≤ ts.length * (n + 2)
  | [], _ => by exact Nat.zero_le _
  | [x], h => by have := h x List.mem_cons_self; show x.length ≤ _; simp; omega
  | x :: y :: r, h => by
    have ih := join_le (ts := y :: r) fun t ht => h t (List.mem_cons_of_mem _ ht)
    have h1 := h x List.mem_cons_self
    show (x ++ ", " ++ Str.join ", " (y :: r)).length ≤ _
    have e2 : ((", " : String) : Str).length = 2 := rfl
    rw [strLen_append, strLen_append, e2, List.length_cons, Nat.succ_mul]
    omega
theorem tupleText_le {n : Nat} {ts : List Str} (h : ∀ t ∈ ts, t.length ≤ n) : (tupleText ts).length ≤ ts.length * (n + 2) + 3 := by
  unfold tupleText
  have := join_le h
  rw [strLen_append, strLen_append]
  have e1 : ((("(" : String) : Str)).length = 1 := rfl
  rw [e1]
  split
  · have e3 : (((",)" : String) : Str)).length = 2 := rfl
    rw [e3]; omega
  · have e3 : (((")" : String) : Str)).length = 1 := rfl
    rw [e3]; omega
theorem textFrom_le {n : Nat} : ∀ {ts : List Str} {k : Nat} {acc : Str}, (∀ t ∈ ts, t.length ≤ n) → (textFrom k acc ts).length ≤ acc.length + ts.length * (n + 2)
  | [], k, acc, _ => by show acc.length ≤ _; omega
  | t :: r, k, acc, h => by
    have ih := textFrom_le (ts := r) (k := k + 1) (acc := acc ++ (if k > 0 then ", " else "" : String) ++ t) fun t ht => h t (List.mem_cons_of_mem _ ht)
    have h1 := h t List.mem_cons_self
    have e : (acc ++ (if k > 0 then ", " else "" : String) ++ t).length = acc.length + (if k > 0 then 2 else 0) + t.length := by
      rw [strLen_append, strLen_append]
      split <;> rfl
    rw [e] at ih
    show (textFrom (k + 1) _ r).length ≤ _
    rw [List.length_cons, Nat.succ_mul]
    have hi : (if k > 0 then 2 else 0 : Nat) ≤ 2 := by split <;> omega
    generalize (if k > 0 then 2 else 0 : Nat) = z at *
    exact Nat.le_trans ih (by omega)
theorem listText_le {n : Nat} {ts : List Str} (h : ∀ t ∈ ts, t.length ≤ n) : (listText ts).length ≤ ts.length * (n + 2) + 3 := by
  unfold listText
  have := textFrom_le (k := 0) (acc := "[") h
  have e1 : ((("[" : String) : Str)).length = 1 := rfl
  have e2 : ((("]" : String) : Str)).length = 1 := rfl
  rw [strLen_append, e2]
  rw [e1] at this
  omega
theorem shows_tup {n j : Nat} {ds : List D} (h : ∀ d ∈ ds, Shows n j d) : Shows (ds.length * (n + 2) + 3) (j + 1) (.tup ds) := by
  obtain ⟨a, b, c, e, f⟩ := shows_each h
  refine ⟨by simp only [D.nodict]; exact a, by simp only [D.pd, smallP]; exact b, ?_, ?_⟩
  · simp only [D.pd, PyData.shown]
    rw [← f]; exact tupleText_le c
  · simp only [D.pd, PyData.depth]; omega
theorem shows_lst {n j : Nat} {ds : List D} (h : ∀ d ∈ ds, Shows n j d) : Shows (ds.length * (n + 2) + 3) (j + 1) (.lst ds) := by
  obtain ⟨a, b, c, e, f⟩ := shows_each h
  refine ⟨by simp only [D.nodict]; exact a, by simp only [D.pd, smallP]; exact b, ?_, ?_⟩
  · simp only [D.pd, PyData.shown]
    rw [← f]; exact listText_le c
  · simp only [D.pd, PyData.depth]; omega
/-! == of two texts -/
def oEqS : RO := fun x y Q => match x, y with
  | .str a, .str b => Q (.bl (decide (a = b)))
  | _, _ => False
def oNeS : RO := fun x y Q => match x, y with
  | .str a, .str b => Q (.bl (!decide (a = b)))
  | _, _ => False
theorem dec_strV {a b : Str} : decide (V.str a = V.str b) = decide (a = b) := by
  by_cases h : a = b
  · subst h; simp
  · rw [decide_eq_false h, decide_eq_false fun z => h (by cases z; rfl)]
theorem d_eqS {K : Ct} : DOp K rEq oEqS := fun B x y H d1 d2 Q Qv fr r1 r2 hq k => by
  match d1, d2, hq with
  | .str a, .str b, hq =>
    rw [r1.isStr, r2.isStr]
    exact ⟨rfl, k _ H _ (fun _ _ e => e) (by rw [dec_strV]; exact .bl _) hq⟩
theorem d_neS {K : Ct} : DOp K rNe oNeS := fun B x y H d1 d2 Q Qv fr r1 r2 hq k => by
  match d1, d2, hq with
  | .str a, .str b, hq =>
    rw [r1.isStr, r2.isStr]
    exact ⟨rfl, k _ H _ (fun _ _ e => e) (by rw [dec_strV]; exact .bl _) hq⟩
end DL
end
section
set_option maxRecDepth 100000
/-! DNew: isinstance, all, < of tuples, a tuple or a list times any small int, slices. -/
namespace PySem
open PySem PyProof.Rows
/-- a tuple times an int below 1: a new empty tuple -/
theorem dn_tuple_mul0 (l : Addr) (x : Value) (r : List Value) (n : Nat) (dd : Option Addr) (sl : Array (Option Value)) (k : Int) (u : Tok) (h1 : -(2 ^ 63) ≤ k) (h2 : k ≤ 0) :
    Meets (Builtin.«tuple.__mul__» ⟨[.ref l, .int k u], []⟩) (fun _ R s => s.heap.get? l = some { cls := .type "tuple", dict := dd, data := .seq (x :: r).toArray n, slots := sl } ∧
      R (.ok (.ret (Value.ref s.heap.objs.size))) { s with heap := s.heap.push { cls := Value.type "tuple", data := Data.seq #[] }, toks := s.toks }) :=
  .of_wp fun prog w A R s h => by
    obtain ⟨hp, g, d, tk, os⟩ := s
    obtain ⟨hl, h⟩ := h
    have f1 := AutoSeq1.idx_int
    have c0 : (decide (k < -(2 ^ 63)) || decide (k ≥ 2 ^ 63)) = false := by rw [decide_eq_false (by omega), decide_eq_false (by omega)]; rfl
    have c1 : ((x :: r).toArray.isEmpty || k == 1) = false := by
      have : (k == 1) = false := beq_eq_false_iff_ne.mpr (by omega)
      rw [this]; rfl
    have c2 : (decide (k ≤ 0) || (x :: r).toArray.isEmpty) = true := by rw [decide_eq_true h2]; rfl
    have n0 : decide ((decide (k < -(2 ^ 63)) || decide (k ≥ 2 ^ 63)) = true) = false := by rw [c0]; rfl
    have n1 : decide (((x :: r).toArray.isEmpty || k == 1) = true) = false := by rw [c1]; rfl
    wp_walk using AutoSeq1.wpAny_loadPart' hl
    refine wpAny_ite_false n0 ?_
    wp_walk using AutoSeq1.wpAny_loadPart' hl
    refine wpAny_ite_false n1 ?_
    wp_walk using AutoSeq1.wpAny_loadPart' hl
    exact ⟨_, rfl, h⟩
end PySem
namespace DL
open PySem PySem.Spec PyProof.Rows L2

section
variable {X : Cx} {e e' o : Expr} {es : List Expr} {te te' to : TE} {re re' ro : RE} {pos p px : Pos} {b b' : Bool} {t : TA} {rs : RAs}
/-! ### isinstance -/
def tyN : D → String
  | .non => "NoneType" | .bl _ => "bool" | .int _ => "int" | .str _ => "str" | .tup _ => "tuple" | .lst _ => "list" | .dK _ => "dict" | .dN _ => "dict"
def D.noN : D → Bool
  | .dN _ => false
  | _ => true
theorem tyX {K : Ct} {B : Addr → Prop} {H : Hp} {v : V} {d : D} (r : Rep K B H v d) (h : d.noN = true) : TyX K.K H v (.type (tyN d)) := by
  cases r with
  | non => exact .base .non
  | bl b => exact .base (.bl b)
  | int i => exact .base (.int i)
  | str x => exact .base (.str x)
  | tup b r z t =>
    rcases r with r | ⟨o, r⟩
    · exact .base (.tup r)
    · exact .fTuple r
  | tupK w z t =>
    obtain ⟨o, its, n, e, c, _⟩ := w
    exact .kTuple e c
  | lst b r z t => exact .base (.lst r)
  | dK b r t =>
    rcases r with r | ⟨o, r⟩
    · exact .base (.dK r)
    · exact .fDict r
  | dN b r t n => exact nomatch h
structure IsK (T : String) (g : D → Bool) : Prop where
  h : ∀ d, kitB (tyN d) T = some (g d)
def isIntB : D → Bool
  | .int _ => true
  | .bl _ => true
  | _ => false
def isBlB : D → Bool
  | .bl _ => true
  | _ => false
def isTupB : D → Bool
  | .tup _ => true
  | _ => false
def isStrB : D → Bool
  | .str _ => true
  | _ => false
theorem is_int : IsK "int" isIntB := ⟨fun d => by
  cases d
  · show kitB "NoneType" "int" = some false; decide +kernel
  · show kitB "bool" "int" = some true; decide +kernel
  · show kitB "int" "int" = some true; decide +kernel
  · show kitB "str" "int" = some false; decide +kernel
  · show kitB "tuple" "int" = some false; decide +kernel
  · show kitB "list" "int" = some false; decide +kernel
  · show kitB "dict" "int" = some false; decide +kernel
  · show kitB "dict" "int" = some false; decide +kernel⟩
theorem is_bool : IsK "bool" isBlB := ⟨fun d => by
  cases d
  · show kitB "NoneType" "bool" = some false; decide +kernel
  · show kitB "bool" "bool" = some true; decide +kernel
  · show kitB "int" "bool" = some false; decide +kernel
  · show kitB "str" "bool" = some false; decide +kernel
  · show kitB "tuple" "bool" = some false; decide +kernel
  · show kitB "list" "bool" = some false; decide +kernel
  · show kitB "dict" "bool" = some false; decide +kernel
  · show kitB "dict" "bool" = some false; decide +kernel⟩
theorem is_tuple : IsK "tuple" isTupB := ⟨fun d => by
  cases d
  · show kitB "NoneType" "tuple" = some false; decide +kernel
  · show kitB "bool" "tuple" = some false; decide +kernel
  · show kitB "int" "tuple" = some false; decide +kernel
  · show kitB "str" "tuple" = some false; decide +kernel
  · show kitB "tuple" "tuple" = some true; decide +kernel
  · show kitB "list" "tuple" = some false; decide +kernel
  · show kitB "dict" "tuple" = some false; decide +kernel
  · show kitB "dict" "tuple" = some false; decide +kernel⟩
theorem is_str : IsK "str" isStrB := ⟨fun d => by
  cases d
  · show kitB "NoneType" "str" = some false; decide +kernel
  · show kitB "bool" "str" = some false; decide +kernel
  · show kitB "int" "str" = some false; decide +kernel
  · show kitB "str" "str" = some true; decide +kernel
  · show kitB "tuple" "str" = some false; decide +kernel
  · show kitB "list" "str" = some false; decide +kernel
  · show kitB "dict" "str" = some false; decide +kernel
  · show kitB "dict" "str" = some false; decide +kernel⟩
def rIsD (g : D → Bool) (re : RE) : RE := fun ρ Q => re ρ fun d => d.noN = true ∧ Q (.bl (g d))
theorem k_isi (K : Ct) {T : String} {x : Str} {g : D → Bool} (hk : IsK T g) (he : DE X b' e te re) (hm : X.mg "isinstance" = none) (hmT : X.mg x = none) (hvT : bootBuiltins x = some (.type T)) (h : X.ct = K := by rfl) (hg : Gl X "isinstance" := by rfl) (hgT : Gl X x := by rfl)
    (hnT : x ≠ "__name__" := by decide) (hdT : (x == ("__debug__" : Str)) = false := by decide)
    (h1 : starEach [e, .Name x px] X.env = (false, eval e X.env) :: starEach [.Name x px] X.env := by rfl) (h2 : starEach [.Name x px] X.env = (false, eval (.Name x px) X.env) :: starEach [] X.env := by rfl)
    (hpl : (backTo pos (starEach [.Name x px] X.env)).any (·.1) = false := by rfl) :
    DE X b (.Call (.Name "isinstance" p) [e, .Name x px] [] pos) (tCB (L2.rIsi K.K) (tCons te (tCons (tC (.ty T)) tNil))) (rIsD g re) := by
  subst h
  exact ⟨pe_callB call_isi hg hm (by rfl) (pa_cons he.pe (pa_cons (pe_bltn hgT hmT hvT rfl hnT hdT) pa_nil h2) h1) (by decide) (by decide) h1 hpl,
    fun Φ own ρ σ H Q Qv R hr hq => he.rd Φ own ρ σ H _ _ R hr fun v H' d R' g' rp q => ⟨v, .ty T, _, _, _, rfl, .ty T, tyX rp q.1, kit_ty (hk.h d), hq _ H' _ R' g' (.bl _) q.2⟩⟩
/-! ### all -/
def cAll : RCs := fun ds Q => match ds with
  | [.lst xs] => ∃ bs : List Bool, xs = bs.map D.bl ∧ Q (.bl (bs.all id))
  | _ => False
theorem reps_bls {K : Ct} {B : Addr → Prop} {H : Hp} : ∀ {vs : List V} {ns : List Bool}, Reps K B H vs (ns.map D.bl) → vs = ns.map V.bl
  | vs, [], h => by cases h; rfl
  | vs, n :: ns, h => by
    have h' : Reps K B H vs (.bl n :: ns.map D.bl) := h
    cases h' with
    | cons r t => rw [r.isBl, reps_bls t]; rfl
theorem d_all {K : Ct} : DCl K (rAll K.K) cAll := fun B vs H ds Q Qv _ rp hq k => by
  match ds, vs, rp, hq with
  | [.lst xs], _, .cons r .nil, hq =>
    obtain ⟨bs, rfl, q⟩ := hq
    obtain ⟨a, vs, rfl, _, rd, _, rv⟩ := r.sqL
    rw [reps_bls rv] at rd
    exact ⟨a, bs, rfl, .inl (.inl rd), k _ H _ (fun _ _ e => e) (.bl _) q⟩
theorem kAll (K : Ct) (hc : X.calm = true) (h : X.ct = K := by rfl) : CallR X (.builtin "all") (rAll K.K) := by subst h; exact cr_all hc
/-! ### sum -/
def cSum : RCs := fun ds Q => match ds with
  | [.lst xs] => ∃ ns : List Int, xs = ns.map D.int ∧ Q (.int ns.sum)
  | _ => False
theorem d_sum {K : Ct} : DCl K (rSum K.K) cSum := fun B vs H ds Q Qv _ rp hq k => by
  match ds, vs, rp, hq with
  | [.lst xs], _, .cons r .nil, hq =>
    obtain ⟨bs, rfl, q⟩ := hq
    obtain ⟨a, vs, rfl, _, rd, _, rv⟩ := r.sqL
    rw [reps_ints rv] at rd
    exact ⟨a, bs, rfl, .inl (.inl rd), k _ H _ (fun _ _ e => e) (.int _) q⟩
theorem kSum (K : Ct) (hc : X.calm = true) (h : X.ct = K := by rfl) : CallR X (.builtin "sum") (rSum K.K) := by subst h; exact cr_sum hc
/-! ### < of ints, of tuples of ints -/
def oLtU : RO := fun x y Q => match x, y with
  | .int i, .int j => Q (.bl (decide (i < j)))
  | .tup xs, .tup ys => ∃ ns ms : List Int, xs = ns.map D.int ∧ ys = ms.map D.int ∧ Q (.bl (HT.lexLt ns ms))
  | _, _ => False
def rLtU (K : PySem.W.Frag) : R2 := fun x y H Q => (rI0 fun i j => .bl (decide (i < j))) x y H Q ∨ rLtT K x y H Q
theorem d_ltU {K : Ct} : DOp K (rLtU K.K) oLtU := fun B x y H d1 d2 Q Qv fr r1 r2 hq k => by
  match d1, d2, hq with
  | .int i, .int j, hq => rw [r1.isInt, r2.isInt]; exact .inl ⟨i, j, rfl, rfl, k _ H _ (fun _ _ e => e) (.bl _) hq⟩
  | .tup xs, .tup ys, hq =>
    obtain ⟨ns, ms, rfl, rfl, q⟩ := hq
    obtain ⟨a, vs, rfl, sq, _, rv⟩ := r1.sqT
    obtain ⟨c, ws, rfl, sq2, _, rv2⟩ := r2.sqT
    rw [reps_ints rv] at sq
    rw [reps_ints rv2] at sq2
    exact .inr ⟨a, c, ns, ms, rfl, rfl, sq, sq2, k _ H _ (fun _ _ e => e) (.bl _) q⟩
theorem kLt (K : Ct) (hu : X.A.units < cLine) (h : X.ct = K := by rfl) : OpR X (compareOp .Lt) (rLtU K.K) := by subst h; exact op_lt.or (op_ltT hu)
/-! ### a tuple or a list times an int -/
def rRep0 (K : PySem.W.Frag) : R2 := fun x y H Q => ∃ l k xs, x = .ref l ∧ y = .int k ∧ SqT K H l xs ∧ xs ≠ [] ∧ -(2 ^ 63) ≤ k ∧ k ≤ 0 ∧ ∀ p, H p = none → Q (.ref p) (upd H p (.tup []))
theorem op_rep0 : OpR X (binaryOp .Mult) (rRep0 X.K) := by
  intro pins s σ H x y v u Q I rx ry h
  obtain ⟨l, k, xs, rfl, rfl, hT, hne, h1, h2, q⟩ := h
  cases rx
  obtain ⟨t, rfl⟩ := ry
  obtain ⟨its, r, ⟨⟨cls, dd, data, sl⟩, ho, hc, n, hd⟩, hs⟩ := I.tuple hT
  simp only at hc hd
  subst hc hd
  cases its with
  | nil => exact absurd (List.eq_nil_of_length_eq_zero r.length) hne
  | cons x0 its =>
  refine wpAny_binaryOp_repeat_ref (T := "tuple") (U := "int") (by decide) ⟨_, ho, rfl⟩ (fun s' => typeIs_int s' k t) noFill_tuple_mul PySem.F.fills_int_mul PySem.F.slot_int_rmul repeat_tuple PySem.F.slot_int_index.lookup
    (call_meets PySem.F.slot_int_rmul (typeIs_int s k t) PySem.F.entry_int_rmul (PySem.F.args_int_rmul_2 _ _) (int_rmul_tuple k t l (x0 :: its).toArray n dd sl)
      ⟨ho, rfl, ⟨_, ho, rfl⟩, call_meets PySem.F.slot_tuple_mul ⟨_, ho, rfl⟩ PySem.F.entry_tuple_mul (PySem.F.args_tuple_mul_2 _ _) (dn_tuple_mul0 l x0 its n dd sl k t h1 h2) ⟨ho, ?_⟩⟩)
  refine ⟨.ref s.heap.objs.size, _, I.laid (t' := s.toks) (o := .tup []) (fun b ob q => Heap.get?_push_of_some _ q) (Nat.le_refl _) ?_, rfl, q _ (I.hok.fresh (Nat.le_refl _))⟩
  exact ⟨by decide, [], .nil, IsTup.new _ _⟩
def oMulU : RO := fun x y Q => match x, y with
  | .int i, .int j => CMulA i j ∧ Q (.int (i * j))
  | .tup xs, .int k => (xs ≠ [] ∧ -(2 ^ 63) ≤ k ∧ k ≤ 1000 ∧ xs.length ≤ 1000) ∧ Q (.tup (List.replicate k.toNat xs).flatten)
  | .lst xs, .int k => (-(2 ^ 63) ≤ k ∧ k ≤ 1000 ∧ xs.length ≤ 1000) ∧ Q (.lst (List.replicate k.toNat xs).flatten)
  | _, _ => False
def rMulU (K : PySem.W.Frag) : R2 := fun x y H Q => (rMulA K x y H Q) ∨ (rRep0 K x y H Q ∨ rRep x y H Q)
theorem op_mulUU : OpR X (binaryOp .Mult) (rMulU X.K) := op_mulA.or (op_rep0.or op_rep)
theorem kMulU (K : Ct) (h : X.ct = K := by rfl) : OpR X (binaryOp .Mult) (rMulU K.K) := by subst h; exact op_mulUU
theorem rep_le {α : Type} {xs : List α} {k : Int} (h1 : k ≤ 1000) (h2 : xs.length ≤ 1000) : xs.length * k.toNat ≤ sizeLine := by
  have : xs.length * k.toNat ≤ 1000 * 1000 := Nat.mul_le_mul h2 (by omega)
  exact Nat.le_trans this (by decide)
theorem d_mulUU {K : Ct} : DOp K (rMulU K.K) oMulU := fun B x y H d1 d2 Q Qv fr r1 r2 hq k => by
  match d1, d2, r1, r2, hq with
  | .int i, .int j, r1, r2, hq => exact .inl (d_mulA B x y H _ _ Q Qv fr r1 r2 hq k)
  | .tup xs, .int j, r1, r2, hq =>
    obtain ⟨⟨hn, h1, h2, h3⟩, q⟩ := hq
    by_cases e : 1 ≤ j
    · exact .inl (d_mulA B x y H _ _ Q Qv fr r1 r2 ⟨⟨hn, e, h2, h3⟩, q⟩ k)
    · rw [r2.isInt]
      obtain ⟨a, vs, rfl, sq, hz, rs⟩ := r1.sqT
      have hl := rs.length
      have e0 : j.toNat = 0 := by omega
      rw [e0] at q
      refine .inr (.inl ⟨a, j, vs, rfl, rfl, sq, fun z => hn ?_, h1, by omega, fun p hp => k _ _ _ (same_new hp) (.tup (fr p hp) (.inl upd_same) (by decide) .nil) q⟩)
      rw [z] at hl; exact List.eq_nil_of_length_eq_zero hl.symm
  | .lst xs, .int j, r1, r2, hq =>
    obtain ⟨⟨h1, h2, h3⟩, q⟩ := hq
    rw [r2.isInt]
    obtain ⟨a, vs, rfl, _, e, hz, rs⟩ := r1.sqL
    have hl := rs.length
    refine .inr (.inr ⟨a, j, vs, rfl, rfl, e, h1, by omega, rep_le h2 (by omega), fun p hp => ?_⟩)
    have s := same_new (o := .lst (List.replicate j.toNat vs).flatten) hp
    refine k _ _ _ s (.lst (fr p hp) upd_same ?_ ((rs.rep _).mono (same_keeps s))) q
    rw [PyProof.Rows.lm_len_rep_flat, Nat.mul_comm]
    exact rep_le h2 (by omega)
/-- a new list: [x] * n -/
def rRepF (ra rb : RE) : RE := fun ρ Q => ra ρ (dL fun xs => rb ρ fun d => match d with
  | .int k => (-(2 ^ 63) ≤ k ∧ k ≤ 1000 ∧ xs.length ≤ 1000) ∧ Q (.lst (List.replicate k.toNat xs).flatten)
  | _ => False)
theorem e_repF (ha : DE X true e te re) (hb : DE X true e' te' re') : DF X (.BinOp e .Mult e' pos) (tOp (rRep) te te') (rRepF re re') :=
  ⟨pe_op op_rep ha.pe hb.pe, fun Φ own ρ σ H Q Qv R hr hq => ha.rd Φ own ρ σ H _ _ R hr fun x H1 d1 R1 g1 p1 q1 => by
    cases d1 with
    | lst xs =>
      refine hb.rd Φ own ρ σ H1 _ _ R1 q1 fun y H2 d2 R2 g2 p2 q2 => ?_
      match d2, p2, q2 with
      | .int j, p2, q2 =>
        obtain ⟨⟨h1, h2, h3⟩, q⟩ := q2
        obtain ⟨a, vs, e, ba, rd, hz, rv⟩ := (R1.rep g2 p1).sqL
        have hl := rv.length
        rw [p2.isInt]
        subst e
        refine ⟨a, j, vs, rfl, rfl, rd, h1, by omega, rep_le h2 (by omega), fun p hp => ?_⟩
        obtain ⟨R3, ok⟩ := R2.newLst hp (by rw [PyProof.Rows.lm_len_rep_flat, Nat.mul_comm]; exact rep_le h2 (by omega)) (rv.rep j.toNat)
        exact hq _ _ _ R3 ((g1.trans g2).trans (same_grow (same_new hp))) (R2.back (g1.trans g2) hp) ok q
    | _ => exact q1.elim⟩
end
end DL
end
section
set_option maxRecDepth 100000
set_option maxHeartbeats 4000000
/-! DSlice: x[a:b], x[::-1] of tuples and lists; list(range(..)); != []; repr with small dicts; {} and dict(pairs) with keys ints and texts. -/
namespace DL
open PySem PySem.Spec PyProof.Rows L2

/-! ### t[::-1], t a tuple -/
section
variable {prog : Program} {w : World} {A : Around} {E : Value → Shared → Prop} {s : Shared}
theorem rev_applied {sl : Addr} {vl vu vs : Value} {n : Nat} {Q : Int × Int × Nat → Shared → Prop} (hs : s.heap.IsSliceOf sl vl vu vs) (pl : IsPart vl none) (pu : IsPart vu none) (ps : IsPart vs (some (-1)))
    (h : Q ((n : Int) - 1, -1, n) s) : wpAny (model prog w) A (Builtin.Slice.sliceApplied (.ref sl) (pure (n : Int))) Q E s := by
  obtain ⟨o1, e1, e2, e3⟩ := id hs
  cases pl
  cases pu
  unfold Builtin.Slice.sliceApplied
  unfold Builtin.Slice.sliceFields
  refine wpAny_bind (wpAny_bind (wpAny_field e1 e3 (x := Value.none) rfl ?_))
  refine wpAny_bind (wpAny_field e1 e3 (x := Value.none) rfl ?_)
  refine wpAny_bind (wpAny_field e1 e3 (x := vs) rfl (wpAny_pure ?_))
  refine wpAny_bind (HT.slicePart_ ps ?_)
  show wpAny _ _ (if ((-1 : Int) == 0) = true then _ else _) _ _ s
  rw [if_neg (by decide)]
  refine wpAny_bind (slicePart_none (wpAny_bind (slicePart_none (wpAny_bind (wpAny_pure (wpAny_pure ?_))))))
  have e : Builtin.Slice.sliceAdjust none none (-1) (n : Int) = ((n : Int) - 1, -1) := rfl
  have e' : Builtin.Slice.slicePlaces ((n : Int) - 1) (-1) (-1) = n := by
    unfold Builtin.Slice.slicePlaces
    rw [if_neg (by decide)]
    by_cases h0 : (n : Int) - 1 > -1
    · rw [if_pos h0, Int.neg_neg, Int.ediv_one]; omega
    · rw [if_neg h0]; omega
  show Q ((Builtin.Slice.sliceAdjust none none (-1) (n : Int)).1, -1, Builtin.Slice.slicePlaces (Builtin.Slice.sliceAdjust none none (-1) (n : Int)).1 (Builtin.Slice.sliceAdjust none none (-1) (n : Int)).2 (-1)) s
  rw [e]
  show Q ((n : Int) - 1, -1, Builtin.Slice.slicePlaces ((n : Int) - 1) (-1) (-1)) s
  rw [e']
  exact h
theorem rev_pick (xs : Array Value) : ((List.range xs.size).filterMap fun (k : Nat) => xs[(((xs.size : Nat) : Int) - 1 + (k : Int) * -1).toNat]?) = xs.toList.reverse := by
  have h1 : (List.range xs.size).filterMap (fun (k : Nat) => xs[(((xs.size : Nat) : Int) - 1 + (k : Int) * -1).toNat]?) = (List.range xs.size).map fun k => (xs.toList.reverse)[k]?.getD .none := by
    have : ∀ l : List Nat, (∀ k ∈ l, k < xs.size) → l.filterMap (fun (k : Nat) => xs[(((xs.size : Nat) : Int) - 1 + (k : Int) * -1).toNat]?) = l.map fun k => (xs.toList.reverse)[k]?.getD .none := by
      intro l
      induction l with
      | nil => intro _; rfl
      | cons k l ih =>
        intro hl
        have hk := hl k List.mem_cons_self
        have e : (((xs.size : Nat) : Int) - 1 + (k : Int) * -1).toNat = xs.size - 1 - k := by omega
        have hlt : xs.size - 1 - k < xs.size := by omega
        have e1 : xs[(((xs.size : Nat) : Int) - 1 + (k : Int) * -1).toNat]? = some (xs[xs.size - 1 - k]'hlt) := by rw [e]; exact Array.getElem?_eq_getElem hlt
        have e2 : (xs.toList.reverse)[k]? = some (xs[xs.size - 1 - k]'hlt) := by
          rw [List.getElem?_reverse (by simpa using hk)]
          simp [hlt]
        rw [List.filterMap_cons, List.map_cons, e1, e2, ih fun z hz => hl z (List.mem_cons_of_mem _ hz)]
        rfl
    exact this _ fun k hk => List.mem_range.mp hk
  rw [h1]
  refine List.ext_getElem? fun i => ?_
  rw [List.getElem?_map]
  by_cases hi : i < xs.size
  · rw [List.getElem?_range hi]
    have : i < xs.toList.reverse.length := by simpa using hi
    show some ((xs.toList.reverse)[i]?.getD .none) = _
    rw [List.getElem?_eq_getElem this]; rfl
  · rw [List.getElem?_eq_none (by simpa using hi), List.getElem?_eq_none (by simpa using hi)]; rfl
theorem rev_item {t sl : Addr} {items : Array Value} {vl vu vs : Value} {Q : Value → Shared → Prop} (ht : IsTup s.heap t items) (hs : s.heap.IsSliceOf sl vl vu vs) (pl : IsPart vl none) (pu : IsPart vu none) (ps : IsPart vs (some (-1)))
    (h : Q (.ref s.heap.objs.size) { s with heap := s.heap.push { cls := .type "tuple", data := .seq items.toList.reverse.toArray } }) (hsz : items.size ≤ sizeLine) : wpAny (model prog w) A (getItem (.ref t) (.ref sl)) Q E s := by
  have hok : sizeOk (.seq items.toList.reverse.toArray) := by
    show items.toList.reverse.toArray.size ≤ sizeLine
    simpa using hsz
  obtain ⟨o1, e1, e2, e3⟩ := id hs
  have hTs : s.TypeIs (.ref sl) "slice" := ⟨o1, e1, e2⟩
  unfold getItem
  refine wpAny_holding ?_
  refine wpAny_bind (wpAny_sequenceKey ht.typeIs (by decide) ?_)
  refine wpAny_bind (wpAny_callSpecial?_slot (name := Str.ofString "__getitem__") ht.typeIs PyProof.Rows.slot_tuple_getitem ?_)
  refine wpAny_call_entry PyProof.Rows.slot_tuple_getitem ht.typeIs PyProof.Rows.entry_tuple_getitem ?_ (PyProof.Rows.args_tuple_getitem _ _)
  show wpAny _ _ (Builtin.Tuple.tupleItemsOf (.ref t) >>= _) _ _ s
  refine wpAny_bind (tupleItemsOf_ ht (wpAny_bind (wpAny_typeOf hTs ?_)))
  rw [if_pos (by decide)]
  refine wpAny_bind (rev_applied hs pl pu ps ?_)
  have hno : ¬ ((((items.size : Nat) : Int) - 1 == 0 && (-1 : Int) == 1 && items.size == items.size) = true) := by
    rw [show ((-1 : Int) == 1) = false from by decide]; simp
  show wpAny _ _ (if (((items.size : Nat) : Int) - 1 == 0 && (-1 : Int) == 1 && items.size == items.size) = true then _ else _) _ _ s
  rw [if_neg hno, rev_pick]
  first
    | exact wpAny_bind (m := Builtin.Tuple.tupleExact _) (wpAny_newObj_type (wpAny_pure ⟨_, rfl, wpAny_pure h⟩) hok)
    | exact wpAny_bind (m := Builtin.Tuple.tupleExact _) (wpAny_newObj_type (wpAny_bind (wpAny_pure (wpAny_pure ⟨_, rfl, wpAny_pure h⟩))) hok)
    | exact wpAny_bind (wpAny_bind (m := Builtin.Tuple.tupleExact _) (wpAny_newObj_type (wpAny_pure (wpAny_pure ⟨_, rfl, wpAny_pure h⟩)) hok))
    | exact wpAny_bind (wpAny_bind (m := Builtin.Tuple.tupleExact _) (wpAny_newObj_type (wpAny_pure ⟨_, rfl, wpAny_pure h⟩) hok))
end
section
variable {X : Cx} {e e' o : Expr} {es : List Expr} {te te' to : TE} {re re' ro : RE} {pos p px : Pos} {b b' : Bool} {t : TA} {rs : RAs}
def tRevU (K : PySem.W.Frag) (te : TE) : TE := fun σ H Q => te σ H fun x H1 => ∃ a xs, x = .ref a ∧ ((SqL K H1 a xs ∧ ∀ p, H1 p = none → Q (.ref p) (upd H1 p (.lst xs.reverse))) ∨ (SqT K H1 a xs ∧ ∀ p, H1 p = none → Q (.ref p) (upd H1 p (.tup xs.reverse))))
theorem pe_revU {k : Nat} {p1 p2 p3 : Pos} (he : PE X e te) : PE X (.Subscript e (.Slice none none (some (.UnaryOp .USub (.Constant (.int 1) k p1) p2)) p3) pos) (tRevU X.K te) := by
  have mark : PO X (some (.UnaryOp .USub (.Constant (.int 1) k p1) p2)) (tPart (tUn (rU fun i => .int (-i)) (tC (.int 1)))) := po_some (pe_un un_neg pe_int)
  refine ⟨fun pins s σ H Q I h => Subscript_ (thn (he.run pins s σ H _ I h) fun v s1 ⟨x, H1, I1, r1, q1⟩ => ?_)⟩
  obtain ⟨a, xs, rfl, q⟩ := q1
  cases r1
  refine wpAny_Slice (thn (po_none.run pins s1 σ H1 (fun o H2 => o = none ∧ H2 = H1) I1 ⟨rfl, rfl⟩) fun vl s2 hl => ?_)
  obtain ⟨_, _, I2, pl, rfl, rfl⟩ := hl
  refine thn (po_none.run pins s2 σ _ (fun o H3 => o = none ∧ H3 = _) I2 ⟨rfl, rfl⟩) fun vu s3 hu => ?_
  obtain ⟨_, _, I3, pu, rfl, rfl⟩ := hu
  refine thn (mark.run pins s3 σ _ (fun o H4 => o = some (-1) ∧ H4 = _) I3 ⟨1, rfl, -1, rfl, rfl, rfl⟩) fun vs s4 hv => ?_
  obtain ⟨_, H4, I4, ps, rfl, rfl⟩ := hv
  have I5 : Inv X pins σ H4 { s4 with heap := s4.heap.push { cls := .type "slice", data := .fields #[vl, vu, vs] } } := I4.kept (t' := s4.toks) fun b ob e => Heap.get?_push_of_some _ e
  rcases q with ⟨sq, q⟩ | ⟨sq, q⟩
  · obtain ⟨its, rv, ht, hz⟩ := I5.list sq
    have hlen := rv.length
    refine tail_any (T := "list") (id := "list.__getitem__") (ops := [.ref a, .ref s4.heap.objs.size]) ht.isList.typeIs (PySem.slot_list_getitem.lookup) ?_ (by with_unfolding_all rfl)
    refine wpAny_getItem_list_slice (lo := none) (hi := none) (st := some (-1)) ht.isList (Heap.IsSliceOf.new _ vl vu vs) pl pu ps (by decide) ?_ (by rw [List.size_toArray]; omega)
    rw [PySem.W.krv_pick]
    refine ⟨.ref _, _, I5.laid (t' := s4.toks) (o := .lst xs.reverse) (fun b ob e => Heap.get?_push_of_some _ e) (Nat.le_refl _) ⟨?_, _, 0, rv.reverse, Heap.get?_push_size _ rfl⟩, rfl, q _ (I5.hok.fresh (Nat.le_refl _))⟩
    rw [List.length_reverse]; exact hz
  · obtain ⟨its, rv, ht, hz⟩ := I5.tuple sq
    have hlen := rv.length
    refine tail_any (T := "tuple") (id := "tuple.__getitem__") (ops := [.ref a, .ref s4.heap.objs.size]) ht.typeIs (PyProof.Rows.slot_tuple_getitem.lookup) ?_ (by with_unfolding_all rfl)
    refine rev_item ht (Heap.IsSliceOf.new _ vl vu vs) pl pu ps ?_ (by rw [List.size_toArray]; omega)
    refine ⟨.ref _, _, I5.laid (t' := s4.toks) (o := .tup xs.reverse) (fun b ob e => Heap.get?_push_of_some _ e) (Nat.le_refl _) ⟨?_, its.reverse, rv.reverse, IsTup.new _ _⟩, rfl, q _ (I5.hok.fresh (Nat.le_refl _))⟩
    rw [List.length_reverse]; exact hz
def rRevU (re : RE) : RE := fun ρ Q => re ρ fun d => match d with
  | .tup xs => Q (.tup xs.reverse)
  | .lst xs => Q (.lst xs.reverse)
  | _ => False
theorem k_revU (K : Ct) {k : Nat} {p1 p2 p3 : Pos} (he : DE X b e te re) (h : X.ct = K := by rfl) : DE X b (.Subscript e (.Slice none none (some (.UnaryOp .USub (.Constant (.int 1) k p1) p2)) p3) pos) (tRevU K.K te) (rRevU re) := by
  subst h
  refine ⟨pe_revU he.pe, fun Φ own ρ σ H Q Qv R hr hq => he.rd Φ own ρ σ H _ _ R hr fun x H1 d1 R1 g1 p1 q1 => ?_⟩
  match d1, p1, q1 with
  | .tup xs, p1, q1 =>
    obtain ⟨a, vs, rfl, sq, hz, rv⟩ := p1.sqT
    refine ⟨a, vs, rfl, .inr ⟨sq, fun p hp => ?_⟩⟩
    have s := same_new (o := .tup vs.reverse) hp
    exact hq _ _ _ (R1.same s) (g1.trans (same_grow s)) (.tup (R1.fresh hp) (.inl upd_same) (by rw [List.length_reverse]; exact hz) (rv.rev.mono (same_keeps s))) q1
  | .lst xs, p1, q1 =>
    obtain ⟨a, vs, rfl, _, e, hz, rv⟩ := p1.sqL
    refine ⟨a, vs, rfl, .inl ⟨.inl (.inl e), fun p hp => ?_⟩⟩
    have s := same_new (o := .lst vs.reverse) hp
    exact hq _ _ _ (R1.same s) (g1.trans (same_grow s)) (.lst (R1.fresh hp) upd_same (by rw [List.length_reverse]; exact hz) (rv.rev.mono (same_keeps s))) q1
/-! ### x[lo:hi] -/
abbrev ROp := En → (Option Int → Prop) → Prop
def DOr (K : Ct) (to : TO) (r : ROp) : Prop := ∀ (Φ : Frm) (own : Ow) (ρ : En) (σ : L2.St) (H : Hp) (Q : Option Int → Prop) (Qv : Option Int → Hp → Prop), Rel K Φ own ρ σ H → r ρ Q →
  (∀ i H', Rel K Φ own ρ σ H' → Grow Φ H H' → Q i → Qv i H') → to σ H Qv
structure DO (X : Cx) (e : Option Expr) (to : TO) (r : ROp) : Prop where
  po : PO X e to
  rd : DOr X.ct to r
def rO0 : ROp := fun _ Q => Q none
def rO1 (re : RE) : ROp := fun ρ Q => re ρ fun d => match d with
  | .int i => Q (some i)
  | _ => False
theorem o_none : DO X none tNoPart rO0 := ⟨po_none, fun Φ own ρ σ H Q Qv R hr hq => hq none H R Grow.refl hr⟩
theorem o_some (he : DE X b e te re) : DO X (some e) (tPart te) (rO1 re) := ⟨po_some he.pe, fun Φ own ρ σ H Q Qv R hr hq => he.rd Φ own ρ σ H _ _ R hr fun v H' d R' g rp q => by
  match d, rp, q with
  | .int i, rp, q => exact ⟨i, rp.isInt, hq _ H' R' g q⟩⟩
def cutD (xs : List D) (lo hi : Option Int) : List D := (xs.drop (HT.sIx xs.length 0 lo)).take (HT.sIx xs.length xs.length hi - HT.sIx xs.length 0 lo)
theorem Reps.cut {K : Ct} {B : Addr → Prop} {H : Hp} {vs : List V} {ds : List D} (h : Reps K B H vs ds) (lo hi : Option Int) : Reps K B H (cutV vs lo hi) (cutD ds lo hi) := by
  unfold cutV cutD
  rw [h.length]
  exact (h.drop _).take _
theorem cutD_all {xs : List D} {lo hi : Option Int} (h : HT.sIx xs.length 0 lo = 0 ∧ HT.sIx xs.length xs.length hi = xs.length) : cutD xs lo hi = xs := by
  unfold cutD
  rw [h.1, h.2, List.drop_zero, Nat.sub_zero, List.take_length]
def rSlU (K : PySem.W.Frag) : V → Option Int → Option Int → Hp → VK → Prop := fun x lo hi H Q => rSlA K x lo hi H Q ∨ rSlL K x lo hi H Q
theorem sl_U : SlR X (rSlU X.K) := sl_tupA.or sl_list
def rSlD (re : RE) (rl rh : ROp) : RE := fun ρ Q => re ρ fun d => rl ρ fun l => rh ρ fun u => match d with
  | .tup xs => Q (.tup (cutD xs l u))
  | .lst xs => Q (.lst (cutD xs l u))
  | _ => False
variable {lo hi : Option Expr} {tl th : TO} {rl rh : ROp}
theorem k_sl (K : Ct) {p2 : Pos} (he : DE X b e te re) (h1 : DO X lo tl rl) (h2 : DO X hi th rh) (h : X.ct = K := by rfl) : DE X b (.Subscript e (.Slice lo hi none p2) pos) (tSl (rSlU K.K) te tl th) (rSlD re rl rh) := by
  subst h
  refine ⟨pe_slice sl_U he.pe h1.po h2.po, fun Φ own ρ σ H Q Qv R hr hq => he.rd Φ own ρ σ H _ _ R hr fun x H1 d1 R1 g1 p1 q1 => h1.rd Φ own ρ σ H1 _ _ R1 q1 fun l H2 R2 g2 q2 => h2.rd Φ own ρ σ H2 _ _ R2 q2 fun u H3 R3 g3 q3 => ?_⟩
  have r0 := R2.rep g3 (R1.rep g2 p1)
  have g := (g1.trans g2).trans g3
  match d1, r0, q3 with
  | .tup xs, r0, q3 =>
    have q3 : Q (.tup (cutD xs l u)) := q3
    have r0' := r0
    obtain ⟨a, vs, rfl, sq, hz, rv⟩ := r0.sqT
    refine .inl ⟨a, vs, rfl, sq, fun hw => ?_, fun _ p hp => ?_⟩
    · rw [rv.length] at hw
      rw [cutD_all hw] at q3
      exact hq _ H3 _ R3 g r0' q3
    · have s := same_new (o := .tup (cutV vs l u)) hp
      exact hq _ _ _ (R3.same s) (g.trans (same_grow s)) (.tup (R3.fresh hp) (.inl upd_same) (Nat.le_trans (cutV_length vs l u) hz) ((rv.cut l u).mono (same_keeps s))) q3
  | .lst xs, r0, q3 =>
    obtain ⟨a, vs, rfl, _, e, hz, rv⟩ := r0.sqL
    refine .inr ⟨a, vs, rfl, .inl (.inl e), fun p hp => ?_⟩
    have s := same_new (o := .lst (cutV vs l u)) hp
    exact hq _ _ _ (R3.same s) (g.trans (same_grow s)) (.lst (R3.fresh hp) upd_same (Nat.le_trans (cutV_length vs l u) hz) ((rv.cut l u).mono (same_keeps s))) q3
/-! ### list(range(..)) -/
def rLR1 (re : RE) : RE := fun ρ Q => re ρ fun d => match d with
  | .int n => (-(2 ^ 62) ≤ n ∧ n ≤ 10000000) ∧ Q (.lst (rangeD 0 n.toNat))
  | _ => False
def rLR2 (ra rb : RE) : RE := fun ρ Q => ra ρ fun d => rb ρ fun d2 => match d, d2 with
  | .int a, .int c => (-(2 ^ 62) ≤ a ∧ a < 2 ^ 62 ∧ -(2 ^ 62) ≤ c ∧ c < 2 ^ 62 ∧ c - a ≤ 10000000) ∧ Q (.lst (rangeD a (c - a).toNat))
  | _, _ => False
theorem reps_range {K : Ct} {B : Addr → Prop} {H : Hp} (a : Int) : ∀ l : List Nat, Reps K B H (l.map fun i => V.int (a + (i : Nat))) (l.map fun (i : Nat) => D.int (a + (i : Int)))
  | [] => .nil
  | i :: l => .cons (.int _) (reps_range a l)
theorem reps_rg {K : Ct} {B : Addr → Prop} {H : Hp} (a c : Int) : Reps K B H (rgV a c) (rangeD a (c - a).toNat) := reps_range a _
theorem rg_len {a c : Int} (h : c - a ≤ 10000000) : (rgV a c).length ≤ sizeLine := by rw [rgV_length, sizeLine_eq]; omega
theorem e_listR1 {p1 p2 p3 : Pos} (hc : X.calm = true) (hm : X.mg "list" = none) (hmr : X.mg "range" = none) (he : DE X b e te re) (hg : Gl X "list" := by rfl) (hgr : Gl X "range" := by rfl)
    (na : starEach [e] X.env = (false, eval e X.env) :: starEach [] X.env := by rfl) (nb : starEach [.Call (.Name "range" p1) [e] [] p2] X.env = (false, eval (.Call (.Name "range" p1) [e] [] p2) X.env) :: starEach [] X.env := by rfl) :
    DF X (.Call (.Name "list" p3) [.Call (.Name "range" p1) [e] [] p2] [] pos) (tLstRg (tRg1 te)) (rLR1 re) :=
  ⟨pe_listRg hc hg hm (prg_1 hgr hmr he.pe na) nb, fun Φ own ρ σ H Q Qv R hr hq => he.rd Φ own ρ σ H _ _ R hr fun v H1 d R1 g1 rp q => by
    match d, rp, q with
    | .int n, rp, q =>
      refine ⟨n, rp.isInt, ⟨by omega, by omega, by omega, by omega, by omega⟩, fun p hp => ?_⟩
      obtain ⟨R2, ok⟩ := R1.newLst hp (rg_len (by omega)) (reps_rg 0 n)
      exact hq _ _ _ R2 (g1.trans (same_grow (same_new hp))) (R1.back g1 hp) ok (by rw [Int.sub_zero]; exact q.2)⟩
theorem e_listR2 {p1 p2 p3 : Pos} (hc : X.calm = true) (hm : X.mg "list" = none) (hmr : X.mg "range" = none) (he : DE X b e te re) (he2 : DE X b e' te' re') (hg : Gl X "list" := by rfl) (hgr : Gl X "range" := by rfl)
    (na : starEach [e, e'] X.env = (false, eval e X.env) :: starEach [e'] X.env := by rfl) (na2 : starEach [e'] X.env = (false, eval e' X.env) :: starEach [] X.env := by rfl) (hp2 : (backTo p2 (starEach [e'] X.env)).any (·.1) = false := by rfl)
    (nb : starEach [.Call (.Name "range" p1) [e, e'] [] p2] X.env = (false, eval (.Call (.Name "range" p1) [e, e'] [] p2) X.env) :: starEach [] X.env := by rfl) :
    DF X (.Call (.Name "list" p3) [.Call (.Name "range" p1) [e, e'] [] p2] [] pos) (tLstRg (tRg2 te te')) (rLR2 re re') :=
  ⟨pe_listRg hc hg hm (prg_2 hgr hmr he.pe he2.pe na na2 hp2) nb, fun Φ own ρ σ H Q Qv R hr hq => he.rd Φ own ρ σ H _ _ R hr fun v H1 d R1 g1 rp q => he2.rd Φ own ρ σ H1 _ _ R1 q fun v2 H2 d2 R2 g2 rp2 q2 => by
    match d, rp, d2, rp2, q2 with
    | .int n, rp, .int m, rp2, q2 =>
      obtain ⟨⟨h1, h2, h3, h4, h5⟩, q⟩ := q2
      refine ⟨n, m, rp.isInt, rp2.isInt, ⟨h1, h2, h3, h4, by omega⟩, fun p hp => ?_⟩
      obtain ⟨R3, ok⟩ := R2.newLst hp (rg_len h5) (reps_rg n m)
      exact hq _ _ _ R3 ((g1.trans g2).trans (same_grow (same_new hp))) (R2.back (g1.trans g2) hp) ok q⟩
end
end DL
end
section
set_option maxRecDepth 100000
/-! DHet: mixed data: repr with empty dicts and of any sort of value; {}; != [] whatever is in the list; dict(pairs). -/
namespace DL
open PySem PySem.Spec PyProof.Rows L2

mutual
/-- as the library's data, empty dicts told -/
def D.px : D → PyData
  | .non => .none
  | .bl b => .bool b
  | .int i => .int i
  | .str x => .str x
  | .tup xs => .tuple (D.pxs xs)
  | .lst xs => .list (D.pxs xs)
  | .dK _ => .dict []
  | .dN _ => .none
def D.pxs : List D → List PyData
  | [] => []
  | x :: xs => x.px :: D.pxs xs
end
mutual
/-- ints of at most 4,300 digits; of dicts empty ones only -/
def D.oks : D → Prop
  | .int i => i.natAbs < 10 ^ 4300
  | .tup xs => D.okss xs
  | .lst xs => D.okss xs
  | .dK kvs => kvs = []
  | .dN _ => False
  | .non => True
  | .bl _ => True
  | .str _ => True
def D.okss : List D → Prop
  | [] => True
  | x :: xs => x.oks ∧ D.okss xs
end
section
variable {X : Cx} {pins : List (Addr × Obj)} {σ : L2.St} {H : Hp} {s : Shared} {B : Addr → Prop}
theorem dk_nil (I : Inv X pins σ H s) {a : Addr} (h : Rd H a (.dK [])) : (a == sysModules) = false ∧ ∃ o n, s.heap.get? a = some o ∧ o.cls = .type "dict" ∧ o.data = .dict #[] n := by
  obtain ⟨_, hs, vs, kv, o, es, n, e1, e2, e3, e4, e5, e6⟩ := dk_rd I.hok h
  cases kv
  obtain ⟨l⟩ := es
  have e5' : Pairs (mixKind X.prog X.w) l [] := e5
  cases e5'
  exact ⟨hs, o, n, e1, e2.1, e3⟩
mutual
theorem het_reads (I : Inv X pins σ H s) (hn : s.heap.NoDigits) : ∀ (d : D) (v : V) (u : Value), d.oks → Rep X.ct B H v d → RelV v u → d.px.shown.length ≤ sizeLine →
    (∃ as, Reads s.heap u d.px as) ∧ ∃ bs, ReadAtMost s.heap d.px.depth bs ∧ ReprK X.prog X.w bs s.heap d.px.depth u d.px.shown
  | .non, v, u, _, r, ru, _ => by rw [r.isNon] at ru; cases ru; exact ⟨⟨_, by simp only [D.px]; exact .none⟩, [], (fun _ h => nomatch h), by simp only [D.px, PyData.shown]; exact .of_is ReprIs.none _ _ _⟩
  | .bl b, v, u, _, r, ru, _ => by rw [r.isBl] at ru; cases ru; exact ⟨⟨_, by simp only [D.px]; exact .bool b⟩, [], (fun _ h => nomatch h), by simp only [D.px, PyData.shown]; exact .of_is (ReprIs.bool b) _ _ _⟩
  | .int i, v, u, ok, r, ru, _ => by
    rw [r.isInt] at ru; obtain ⟨t, rfl⟩ := ru
    exact ⟨⟨_, by simp only [D.px]; exact .int i t⟩, [], (fun _ h => nomatch h), by simp only [D.px, PyData.shown]; exact big_int (by simpa only [D.oks] using ok) hn⟩
  | .str x, v, u, _, r, ru, hz => by
    rw [r.isStr] at ru; obtain ⟨t, rfl⟩ := ru
    exact ⟨⟨_, by simp only [D.px]; exact .str x t⟩, [], (fun _ h => nomatch h), by simp only [D.px, PyData.shown]; exact .of_is (ReprIs.str x t (by simpa only [D.px, PyData.shown] using hz)) _ _ _⟩
  | .tup ds, v, u, ok, r, ru, hz => by
    obtain ⟨a, vs, rfl, sq, _, rs⟩ := r.sqT
    cases ru
    obtain ⟨its, rv, ⟨o, ho, hc, n, hd⟩, _⟩ := I.tuple sq
    have hz' : (tupleText (PyData.shownAll (D.pxs ds))).length ≤ sizeLine := by simpa only [D.px, PyData.shown] using hz
    obtain ⟨⟨as, h4⟩, bs, hb, hk⟩ := het_all I hn ds vs its (by simpa only [D.oks] using ok) rs rv fun t ht => Nat.le_trans (tupleText_mem_le ht) hz'
    have rr : Reads s.heap (.ref a) (.tuple (D.pxs ds)) _ := .tuple ho hc hd (by simpa using h4)
    have hna : a ∉ bs := not_mem_of_deeper rr (by simp only [PyData.depth]; omega) hb
    simp only [D.px]
    refine ⟨⟨_, rr⟩, a :: bs, ReadAtMost.cons rr (by simp only [PyData.depth]; omega) hb, ?_⟩
    simp only [PyData.depth, PyData.shown]
    exact ReprK.tuple ho hc hd hna (by simpa using hk)
  | .lst ds, v, u, ok, r, ru, hz => by
    obtain ⟨a, vs, rfl, _, rd, _, rs⟩ := r.sqL
    cases ru
    obtain ⟨its, rv, p, _⟩ := I.list (.inl (.inl rd))
    obtain ⟨o, ho, hc, n, hd⟩ := p.isList
    have hz' : (listText (PyData.shownAll (D.pxs ds))).length ≤ sizeLine := by simpa only [D.px, PyData.shown] using hz
    obtain ⟨⟨as, h4⟩, bs, hb, hk⟩ := het_all I hn ds vs its (by simpa only [D.oks] using ok) rs rv fun t ht => Nat.le_trans (listText_mem_le ht) hz'
    have rr : Reads s.heap (.ref a) (.list (D.pxs ds)) _ := .list ho hc hd (by simpa using h4)
    have hna : a ∉ bs := not_mem_of_deeper rr (by simp only [PyData.depth]; omega) hb
    simp only [D.px]
    refine ⟨⟨_, rr⟩, a :: bs, ReadAtMost.cons rr (by simp only [PyData.depth]; omega) hb, ?_⟩
    simp only [PyData.depth, PyData.shown]
    cases its with
    | nil =>
      cases rv
      cases rs
      simp only [D.pxs, PyData.shownAll, listText_nil]
      exact ReprK.listEmpty ho hc hd
    | cons x l => exact ReprK.list ho hc hd hna (by simpa using hk.length_eq) (fun i y e => hk.item i y (by simpa using e))
  | .dK kvs, v, u, ok, r, ru, _ => by
    have ok' : kvs = [] := by simpa only [D.oks] using ok
    subst ok'
    cases r with
    | dK b r t =>
      cases t
      cases ru
      obtain ⟨hs, o, n, e1, e2, e3⟩ := dk_nil I r
      simp only [D.px]
      have rr : Reads s.heap (.ref _) (.dict []) _ := .dict (as := []) (bs := []) e1 e2 e3 .nil .nil
      refine ⟨⟨_, rr⟩, [_], fun b hb => by rw [List.mem_singleton.mp hb]; exact ⟨_, _, rr, Nat.le_refl _⟩, ?_⟩
      simp only [PyData.depth, PyData.depthKv, PyData.shown, PyData.shownKv]
      exact ReprK.dict (as := []) (d := 0) (ps := []) e1 e2 e3 hs (by simp) .nil
  | .dN _, _, _, ok, _, _, _ => False.elim (by simpa only [D.oks] using ok)
theorem het_all (I : Inv X pins σ H s) (hn : s.heap.NoDigits) : ∀ (ds : List D) (vs : List V) (us : List Value), D.okss ds → Reps X.ct B H vs ds → Vals vs us → (∀ t ∈ PyData.shownAll (D.pxs ds), t.length ≤ sizeLine) →
    (∃ as, ReadsAll s.heap us (D.pxs ds) as) ∧ ∃ bs, ReadAtMost s.heap (PyData.depthAll (D.pxs ds)) bs ∧ ReprAllK X.prog X.w bs s.heap (PyData.depthAll (D.pxs ds)) us (PyData.shownAll (D.pxs ds))
  | [], vs, us, _, r, ru, _ => by
    cases r; cases ru
    exact ⟨⟨_, by simp only [D.pxs]; exact .nil⟩, [], (fun _ h => nomatch h), by simp only [D.pxs, PyData.shownAll]; exact .nil⟩
  | d :: ds, vs, us, ok, r, ru, hz => by
    have ok' : d.oks ∧ D.okss ds := by simpa only [D.okss] using ok
    cases r with
    | cons r1 r2 =>
      cases ru with
      | cons u1 u2 =>
        simp only [D.pxs, PyData.shownAll] at hz ⊢
        obtain ⟨⟨a1, q1⟩, b1, hb1, k1⟩ := het_reads I hn d _ _ ok'.1 r1 u1 (hz _ List.mem_cons_self)
        obtain ⟨⟨a2, q2⟩, b2, hb2, k2⟩ := het_all I hn ds _ _ ok'.2 r2 u2 fun t ht => hz t (List.mem_cons_of_mem _ ht)
        refine ⟨⟨_, .cons q1 q2⟩, b1 ++ b2, ?_, ?_⟩
        · intro b hm
          simp only [PyData.depthAll]
          rcases List.mem_append.mp hm with hm | hm
          · obtain ⟨d', as', r', hd'⟩ := hb1 b hm
            exact ⟨d', as', r', Nat.le_trans hd' (Nat.le_max_left _ _)⟩
          · obtain ⟨d', as', r', hd'⟩ := hb2 b hm
            exact ⟨d', as', r', Nat.le_trans hd' (Nat.le_max_right _ _)⟩
        · simp only [PyData.depthAll, PyData.shownAll]
          exact .cons ((k1.more fun b hb => List.mem_append_left _ hb).level_le (Nat.le_max_left _ _)) (k2.more_le (fun b hb => List.mem_append_right _ hb) (Nat.le_max_right _ _))
end
end
/-- what this repr is asked of -/
def hetOk (d : D) : Prop := d.oks ∧ d.px.shown.length ≤ sizeLine ∧ d.px.depth ≤ 60 ∧ (∀ i, d = .int i → i.natAbs.log2 < 1920)
def rReprX (K : Ct) : List V → Hp → VK → Prop := fun xs H Q => ∃ (B : Addr → Prop) (v : V) (d : D), xs = [v] ∧ Rep K B H v d ∧ hetOk d ∧ Q (.str d.px.shown) H
theorem cr_reprX {X : Cx} {k : Nat} (hr : RoomG k X.A) (hd : X.base.NoDigits) : CallR X (.builtin "repr") (rReprX X.ct) := by
  intro pins s σ H xs us Q I r h
  obtain ⟨B, v, d, rfl, rp, ok, q⟩ := h
  obtain ⟨u, rfl, ru⟩ : ∃ u, us = [u] ∧ RelV v u := by
    cases r with
    | cons a t => cases t; exact ⟨_, rfl, a⟩
  have hn : s.heap.NoDigits := hd.keeps I.bk
  have hu := hr.u
  obtain ⟨o1, o2, o3, o4⟩ := ok
  have fin : ∀ (t : Str) (h' : Heap) (w : Tok) (tk : Nat), t = d.px.shown → (∀ b o, s.heap.get? b = some o → h'.get? b = some o) → EP X pins σ Q (.str t w) { s with heap := h', toks := tk } := fun t h' w tk e hk => by
    subst e
    exact ⟨.str d.px.shown, H, I.kept hk, ⟨w, rfl⟩, q⟩
  cases d with
  | non => rw [rp.isNon] at ru; cases ru; exact P.repr_of_none (fin _ _ _ _ (by simp only [D.px, PyData.shown]) fun _ _ e => e)
  | bl b => rw [rp.isBl] at ru; cases ru; exact P.repr_of_bool (fin _ _ _ _ (by simp only [D.px, PyData.shown]) fun _ _ e => e)
  | int i => rw [rp.isInt] at ru; obtain ⟨t, rfl⟩ := ru; exact P.repr_of_int (o4 i rfl) (fin _ _ _ _ (by simp only [D.px, PyData.shown]) fun _ _ e => e)
  | str x => rw [rp.isStr] at ru; obtain ⟨t, rfl⟩ := ru; exact P.repr_of_str (fin _ _ _ _ (by simp only [D.px, PyData.shown]) fun _ _ e => e) (by simpa only [D.px, PyData.shown] using o2)
  | tup ds =>
    obtain ⟨a, vs, rfl, sq, _, rs⟩ := rp.sqT
    cases ru
    obtain ⟨its, rv, ⟨o, ho, hc, n, hdt⟩, _⟩ := I.tuple sq
    have hz' : (tupleText (PyData.shownAll (D.pxs ds))).length ≤ sizeLine := by simpa only [D.px, PyData.shown] using o2
    obtain ⟨⟨as, h4⟩, bs, hb, hk⟩ := het_all I hn ds vs its (by simpa only [D.oks] using o1) rs rv fun t ht => Nat.le_trans (tupleText_mem_le ht) hz'
    have rr : Reads s.heap (.ref a) (.tuple (D.pxs ds)) _ := .tuple ho hc hdt (by simpa using h4)
    have hna : a ∉ bs := not_mem_of_deeper rr (by simp only [PyData.depth]; omega) hb
    simp only [D.px, PyData.depth] at o3
    refine call_repr_slot (by omega) ⟨o, ho, hc⟩ PySem.F.slot_tuple_repr (call_tuple_reprK ho hc hdt hna (by simpa using hk) hr.g (fun b _ => Clear.nil b) (by show X.A.units + 1 + _ < cLine; omega) (fun _ _ e => e) (fun h' u tk hk' => ⟨_, _, rfl, fin _ _ _ _ (by simp only [D.px, PyData.shown]) hk'⟩) hz')
  | lst ds =>
    obtain ⟨a, vs, rfl, _, rd, _, rs⟩ := rp.sqL
    cases ru
    obtain ⟨its, rv, p, _⟩ := I.list (.inl (.inl rd))
    obtain ⟨o, ho, hc, n, hdt⟩ := p.isList
    have hz' : (listText (PyData.shownAll (D.pxs ds))).length ≤ sizeLine := by simpa only [D.px, PyData.shown] using o2
    obtain ⟨⟨as, h4⟩, bs, hb, hk⟩ := het_all I hn ds vs its (by simpa only [D.oks] using o1) rs rv fun t ht => Nat.le_trans (listText_mem_le ht) hz'
    have rr : Reads s.heap (.ref a) (.list (D.pxs ds)) _ := .list ho hc hdt (by simpa using h4)
    have hna : a ∉ bs := not_mem_of_deeper rr (by simp only [PyData.depth]; omega) hb
    simp only [D.px, PyData.depth] at o3
    refine call_repr_slot (by omega) ⟨o, ho, hc⟩ PySem.F.slot_list_repr.toG ?_
    cases its with
    | nil =>
      cases rv
      cases rs
      exact call_list_repr_empty ⟨o, ho, hc⟩ ho hdt ⟨_, _, rfl, fin _ _ _ _ (by simp only [D.px, D.pxs, PyData.shown, PyData.shownAll, listText_nil]) fun _ _ e => e⟩
    | cons x l =>
      exact call_list_reprK ho hc hdt hna (by simpa using hk.length_eq) (fun i y e => hk.item i y (by simpa using e)) hr.g (fun b _ => Clear.nil b) (by show X.A.units + 1 + _ < cLine; omega) (fun _ _ e => e) (fun h' u tk hk' => ⟨_, _, rfl, fin _ _ _ _ (by simp only [D.px, PyData.shown]) hk'⟩) hz'
  | dK kvs =>
    have ok' : kvs = [] := by simpa only [D.oks] using o1
    subst ok'
    cases rp with
    | dK b r0 t =>
      cases t
      cases ru
      obtain ⟨hs, o, n, e1, e2, e3⟩ := dk_nil I r0
      refine call_repr_slot (by omega) ⟨o, e1, e2⟩ PySem.F.slot_dict_repr (call_dict_reprK (as := []) (d := 0) (ps := []) e1 e2 e3 hs (by simp) .nil hr.g (fun b _ => Clear.nil b) (by show X.A.units + 1 + _ < cLine; omega) (fun _ _ e => e) (fun h' u tk hk' => ⟨_, _, rfl, fin _ _ _ _ (by simp only [D.px, PyData.shown, PyData.shownKv]) hk'⟩) (by decide))
  | dN kvs => exact False.elim (by simpa only [D.oks] using o1)
def cReprX : RCs := fun ds Q => match ds with
  | [d] => hetOk d ∧ Q (.str d.px.shown)
  | _ => False
theorem d_reprX {K : Ct} : DCl K (rReprX K) cReprX := fun B vs H ds Q Qv _ rp hq k => by
  match ds, vs, rp, hq with
  | [d], [v], .cons r .nil, hq => exact ⟨B, v, d, rfl, r, hq.1, k _ H _ (fun _ _ e => e) (.str _) hq.2⟩
section
variable {X : Cx} {e e' : Expr} {te te' : TE} {re re' : RE} {pos p : Pos} {b : Bool} {t : TA} {rs : RAs}
theorem k_reprX (K : Ct) {k : Nat} (hr : RoomG k X.A) (hd : X.base.NoDigits) (hm : X.mg "repr" = none) (ha : DA X b [e] t rs) (h : X.ct = K := by rfl) (hg : Gl X "repr" := by rfl) (he : starEach [e] X.env = (false, eval e X.env) :: starEach [] X.env := by rfl)
    (hpl : (backTo pos (starEach [] X.env)).any (·.1) = false := by rfl) : DE X b (.Call (.Name "repr" p) [e] [] pos) (tCB (rReprX K) t) (rCl cReprX rs) := by
  subst h
  exact e_bi (cr_reprX hr hd) d_reprX hg hm (by rfl) ha (by decide) (by decide) he hpl
/-! ### {}: keys ints and texts -/
theorem e_dict0K : DF X (.Dict [] [] pos) tDNewK (rC (.dK [])) := ⟨pe_dnewK, fun Φ own ρ σ H Q Qv R hr hq => fun p hp => by
  have R2 := R.add (o := .dK []) hp trivial
  exact hq p _ (.dK []) R2 (same_grow (same_new hp)) hp ⟨[], upd_same, .nil⟩ hr⟩
/-! ### == and != of two lists, one of them empty -/
def rNeE (K : PySem.W.Frag) : R2 := fun x y H Q => ∃ a c xs ys, x = .ref a ∧ y = .ref c ∧ SqL K H a xs ∧ SqL K H c ys ∧ (xs = [] ∨ ys = []) ∧ Q (.bl (!decide (xs.length = ys.length))) H
theorem op_neE (hu : X.A.units < cLine) : OpR X (compareOp .NotEq) (rNeE X.K) := by
  intro pins s σ H x y v u Q I rx ry h
  obtain ⟨a, c, xs, ys, rfl, rfl, h1, h2, h0, q⟩ := h
  cases rx
  cases ry
  obtain ⟨its, rv, p1, _⟩ := I.list h1
  obtain ⟨its2, rv2, p2, _⟩ := I.list h2
  have l1 := rv.length
  have l2 := rv2.length
  by_cases e : xs.length = ys.length
  · have e0 : its = [] ∧ its2 = [] := by
      rcases h0 with rfl | rfl
      · exact ⟨List.eq_nil_of_length_eq_zero l1.symm, List.eq_nil_of_length_eq_zero (by rw [← l2, ← e]; rfl)⟩
      · exact ⟨List.eq_nil_of_length_eq_zero (by rw [← l1, e]; rfl), List.eq_nil_of_length_eq_zero l2.symm⟩
    obtain ⟨rfl, rfl⟩ := e0
    have := PySem.SeqAt.RcNeAt.lists (e := fun _ => true) p1.isList p2.isList rfl hu (fun j z _ => absurd z (by simp)) X.prog X.w X.xe (EP X pins σ Q)
    refine this ?_
    rw [decide_eq_true e] at q
    exact ⟨.bl false, H, I, rfl, q⟩
  · have := PySem.SeqAt.RcNeAt.lists_lengths p1.isList p2.isList (by rw [List.size_toArray, List.size_toArray, ← l1, ← l2]; simpa using e) hu X.prog X.w X.xe (EP X pins σ Q)
    refine this ?_
    rw [decide_eq_false e] at q
    exact ⟨.bl true, H, I, rfl, q⟩
def oNeE : RO := fun x y Q => match x, y with
  | .lst xs, .lst ys => (xs = [] ∨ ys = []) ∧ Q (.bl (!decide (xs.length = ys.length)))
  | _, _ => False
theorem d_neE {K : Ct} : DOp K (rNeE K.K) oNeE := fun B x y H d1 d2 Q Qv fr r1 r2 hq k => by
  match d1, d2, hq with
  | .lst xs, .lst ys, ⟨h0, q⟩ =>
    obtain ⟨a, vs, rfl, _, e1, z1, rs⟩ := r1.sqL
    obtain ⟨c, ws, rfl, _, e2, z2, rs2⟩ := r2.sqL
    have l1 := rs.length
    have l2 := rs2.length
    refine ⟨a, c, vs, ws, rfl, rfl, .inl (.inl e1), .inl (.inl e2), ?_, k _ H _ (fun _ _ e => e) (by rw [l1, l2]; exact .bl _) q⟩
    rcases h0 with rfl | rfl
    · exact .inl (List.eq_nil_of_length_eq_zero l1)
    · exact .inr (List.eq_nil_of_length_eq_zero l2)
theorem kNeE (K : Ct) (hu : X.A.units < cLine) (h : X.ct = K := by rfl) : OpR X (compareOp .NotEq) (rNeE K.K) := by subst h; exact op_neE hu
def rEqE (K : PySem.W.Frag) : R2 := fun x y H Q => ∃ a c xs ys, x = .ref a ∧ y = .ref c ∧ SqL K H a xs ∧ SqL K H c ys ∧ (xs = [] ∨ ys = []) ∧ Q (.bl (decide (xs.length = ys.length))) H
theorem op_eqE (hu : X.A.units < cLine) : OpR X (compareOp .Eq) (rEqE X.K) := by
  intro pins s σ H x y v u Q I rx ry h
  obtain ⟨a, c, xs, ys, rfl, rfl, h1, h2, h0, q⟩ := h
  cases rx
  cases ry
  obtain ⟨its, rv, p1, _⟩ := I.list h1
  obtain ⟨its2, rv2, p2, _⟩ := I.list h2
  have l1 := rv.length
  have l2 := rv2.length
  by_cases e : xs.length = ys.length
  · have e0 : its = [] ∧ its2 = [] := by
      rcases h0 with rfl | rfl
      · exact ⟨List.eq_nil_of_length_eq_zero l1.symm, List.eq_nil_of_length_eq_zero (by rw [← l2, ← e]; rfl)⟩
      · exact ⟨List.eq_nil_of_length_eq_zero (by rw [← l1, e]; rfl), List.eq_nil_of_length_eq_zero l2.symm⟩
    obtain ⟨rfl, rfl⟩ := e0
    have := PySem.SeqAt.RcAt.lists (e := fun _ => true) p1.isList p2.isList rfl hu (fun j z _ => absurd z (by simp)) X.prog X.w X.xe (EP X pins σ Q)
    refine this ?_
    rw [decide_eq_true e] at q
    exact ⟨.bl true, H, I, rfl, q⟩
  · have := PySem.SeqAt.RcAt.lists_lengths p1.isList p2.isList (by rw [List.size_toArray, List.size_toArray, ← l1, ← l2]; simpa using e) hu X.prog X.w X.xe (EP X pins σ Q)
    refine this ?_
    rw [decide_eq_false e] at q
    exact ⟨.bl false, H, I, rfl, q⟩
def oEqE : RO := fun x y Q => match x, y with
  | .lst xs, .lst ys => (xs = [] ∨ ys = []) ∧ Q (.bl (decide (xs.length = ys.length)))
  | _, _ => False
theorem d_eqE {K : Ct} : DOp K (rEqE K.K) oEqE := fun B x y H d1 d2 Q Qv fr r1 r2 hq k => by
  match d1, d2, hq with
  | .lst xs, .lst ys, ⟨h0, q⟩ =>
    obtain ⟨a, vs, rfl, _, e1, z1, rs⟩ := r1.sqL
    obtain ⟨c, ws, rfl, _, e2, z2, rs2⟩ := r2.sqL
    have l1 := rs.length
    have l2 := rs2.length
    refine ⟨a, c, vs, ws, rfl, rfl, .inl (.inl e1), .inl (.inl e2), ?_, k _ H _ (fun _ _ e => e) (by rw [l1, l2]; exact .bl _) q⟩
    rcases h0 with rfl | rfl
    · exact .inl (List.eq_nil_of_length_eq_zero l1)
    · exact .inr (List.eq_nil_of_length_eq_zero l2)
theorem kEqE (K : Ct) (hu : X.A.units < cLine) (h : X.ct = K := by rfl) : OpR X (compareOp .Eq) (rEqE K.K) := by subst h; exact op_eqE hu
end
/-! ### dict(pairs), keys ints and texts -/
def kD1 : Key → D
  | .inl i => .int i
  | .inr x => .str x
def putKD (kvs : List (Key × D)) (k : Key) (v : D) : List (Key × D) := if (kvs.any fun kv => decide (kv.1 = k)) = true then kvs.map (fun kv => if kv.1 = k then (kv.1, v) else kv) else kvs ++ [(k, v)]
def mergeKD (kvs more : List (Key × D)) : List (Key × D) := more.foldl (fun acc kv => putKD acc kv.1 kv.2) kvs
section
variable {K : Ct} {B : Addr → Prop} {H : Hp}
theorem RepK.any {kvs : List (Key × V)} {kds : List (Key × D)} (h : RepK K B H kvs kds) (k : Key) : (kvs.any fun kv => decide (kv.1 = k)) = kds.any fun kv => decide (kv.1 = k) := by
  induction kds generalizing kvs with
  | nil => cases h; rfl
  | cons d ds ih =>
    cases h with
    | cons r t => rw [List.any_cons, List.any_cons, ih t]
theorem RepK.mapput {kvs : List (Key × V)} {kds : List (Key × D)} (h : RepK K B H kvs kds) (k : Key) {v : V} {d : D} (r : Rep K B H v d) :
    RepK K B H (kvs.map fun kv => if kv.1 = k then (kv.1, v) else kv) (kds.map fun kv => if kv.1 = k then (kv.1, d) else kv) := by
  induction kds generalizing kvs with
  | nil => cases h; exact .nil
  | cons e ds ih =>
    cases h with
    | @cons k2 v2 d2 _ _ r2 t =>
      rw [List.map_cons, List.map_cons]
      dsimp only
      by_cases z : k2 = k
      · rw [if_pos z, if_pos z]; exact .cons r (ih t)
      · rw [if_neg z, if_neg z]; exact .cons r2 (ih t)
theorem RepK.snoc {kvs : List (Key × V)} {kds : List (Key × D)} (h : RepK K B H kvs kds) (k : Key) {v : V} {d : D} (r : Rep K B H v d) : RepK K B H (kvs ++ [(k, v)]) (kds ++ [(k, d)]) := by
  induction kds generalizing kvs with
  | nil => cases h; exact .cons r .nil
  | cons e ds ih =>
    cases h with
    | cons r2 t => exact .cons r2 (ih t)
theorem RepK.putK {kvs : List (Key × V)} {kds : List (Key × D)} (h : RepK K B H kvs kds) (k : Key) {v : V} {d : D} (r : Rep K B H v d) : RepK K B H (L2.putK kvs k v) (putKD kds k d) := by
  unfold L2.putK putKD
  rw [h.any k]
  by_cases z : (kds.any fun kv => decide (kv.1 = k)) = true
  · rw [if_pos z, if_pos z]; exact h.mapput k r
  · rw [if_neg z, if_neg z]; exact h.snoc k r
theorem RepK.merge {kvs more : List (Key × V)} {kds mored : List (Key × D)} (h : RepK K B H kvs kds) (h2 : RepK K B H more mored) : RepK K B H (mergeK kvs more) (mergeKD kds mored) := by
  induction mored generalizing more kvs kds with
  | nil => cases h2; exact h
  | cons e ds ih =>
    cases h2 with
    | @cons k v d vs _ r t =>
      show RepK K B H (mergeK (L2.putK kvs k v) vs) (mergeKD (putKD kds k d) ds)
      exact ih (h.putK k r) t
theorem RepK.length {kvs : List (Key × V)} {kds : List (Key × D)} (h : RepK K B H kvs kds) : kvs.length = kds.length := by
  induction kds generalizing kvs with
  | nil => cases h; rfl
  | cons e ds ih =>
    cases h with
    | cons r t => rw [List.length_cons, List.length_cons, ih t]
theorem rep_key {v : V} : ∀ {k : Key}, Rep K B H v (kD1 k) → v = kV k
  | .inl i, h => h.isInt
  | .inr x, h => h.isStr
theorem pairs_of : ∀ {kds : List (Key × D)} {vs : List V}, Reps K B H vs (kds.map fun kv => D.tup [kD1 kv.1, kv.2]) → ∃ (ps : List Addr) (kvs : List (Key × V)), vs = ps.map V.ref ∧ Paired (fun p kv => SqT K.K H p [kV kv.1, kv.2]) ps kvs ∧ RepK K B H kvs kds
  | [], vs, h => by cases h; exact ⟨[], [], rfl, .nil, .nil⟩
  | (k, d) :: kds, vs, h => by
    have h' : Reps K B H vs (D.tup [kD1 k, d] :: kds.map fun kv => D.tup [kD1 kv.1, kv.2]) := h
    cases h' with
    | cons r t =>
      obtain ⟨ps, kvs, e, pr, rk⟩ := pairs_of t
      obtain ⟨a, ws, rfl, sq, _, rs⟩ := r.sqT
      cases rs with
      | cons r1 r2 =>
        cases r2 with
        | cons r2 r3 =>
          cases r3
          rw [rep_key r1] at sq
          exact ⟨a :: ps, (k, _) :: kvs, by rw [e]; rfl, .cons sq pr, .cons r2 rk⟩
end
section
variable {X : Cx} {e : Expr} {pos p : Pos} {b : Bool} {t : TA} {rs : RAs}
def rDictP (rs : RAs) : RE := fun ρ Q => rs ρ fun ds => match ds with
  | [.lst xs] => ∃ kds : List (Key × D), xs = kds.map (fun kv => D.tup [kD1 kv.1, kv.2]) ∧ Q (.dK (mergeKD [] kds))
  | _ => False
theorem k_dictP (K : Ct) (hc : X.calm = true) (hm : X.mg "dict" = none) (ha : DA X true [e] t rs) (h : X.ct = K := by rfl) (hg : Gl X "dict" := by rfl) (he : starEach [e] X.env = (false, eval e X.env) :: starEach [] X.env := by rfl) (hpl : (backTo pos (starEach [] X.env)).any (·.1) = false := by rfl) :
    DF X (.Call (.Name "dict" p) [e] [] pos) (tCB (fun xs H Q => ∃ (a : Addr) (ps : List Addr) (kvs : List (Key × V)), xs = [.ref a] ∧ SqL K.K H a (ps.map V.ref) ∧ Paired (fun p kv => SqT K.K H p [kV kv.1, kv.2]) ps kvs ∧ ∀ p, H p = none → Q (.ref p) (upd H p (.dK (mergeK [] kvs)))) t) (rDictP rs) := by
  subst h
  refine ⟨pe_callTy (call_dictP hc) hg hm (by rfl) ha.pa (by decide) (by decide) he hpl, fun Φ own ρ σ H Q Qv R hr hq => ha.rd Φ own ρ σ H _ _ R hr fun vs H1 ds R1 g1 rp hl q1 => ?_⟩
  match ds, vs, rp, q1 with
  | [.lst xs], _, .cons r .nil, q1 =>
    obtain ⟨kds, rfl, q⟩ := q1
    obtain ⟨a, ws, rfl, ba, rd, hz, rv⟩ := r.sqL
    obtain ⟨ps, kvs, rfl, pr, rk⟩ := pairs_of rv
    refine ⟨a, ps, kvs, rfl, .inl (.inl rd), pr, fun p hp => ?_⟩
    have R2 := R1.add (o := .dK (mergeK [] kvs)) hp trivial
    have rm : RepK X.ct (Φ.B own true) H1 (mergeK [] kvs) (mergeKD [] kds) := RepK.merge .nil rk
    exact hq p _ (.dK (mergeKD [] kds)) R2 (g1.trans (same_grow (same_new hp))) (R1.back g1 hp) ⟨_, upd_same, rm.mono' (Rel.B_to hp) (same_keeps (same_new hp))⟩ q
/-- len of a new dict -/
def rLenF (re : RE) : RE := fun ρ Q => re ρ fun d => match d with
  | .dK kvs => Q (.int kvs.length)
  | _ => False
theorem k_lenF {te : TE} {re : RE} (he : DF X e te re) (hm : X.mg "len" = none) (hg : Gl X "len" := by rfl) (hs : starEach [e] X.env = (false, eval e X.env) :: starEach [] X.env := by rfl) (hpl : (backTo pos (starEach [] X.env)).any (·.1) = false := by rfl) :
    DE X b (.Call (.Name "len" p) [e] [] pos) (tCB (fun xs H Q => ∃ a kvs, xs = [V.ref a] ∧ H a = some (.dK kvs) ∧ Q (.int kvs.length) H) (tCons te tNil)) (rLenF re) :=
  ⟨pe_callB call_lenD hg hm (by rfl) (pa_cons he.pe pa_nil hs) (by decide) (by decide) hs hpl, fun Φ own ρ σ H Q Qv R hr hq => he.rd Φ own ρ σ H _ _ R hr fun p H1 d R1 g1 n ok q => by
    cases d with
    | dK kds =>
      obtain ⟨kvs, e, rk⟩ := ok
      refine ⟨p, kvs, rfl, e, ?_⟩
      rw [rk.length]
      exact hq _ H1 _ (R.grow g1 fun a c e => (R1.src a c e).2.2) g1 (.int _) q
    | _ => exact q.elim⟩
end
section
variable {X : Cx} {a c : Expr} {ta tc : TE} {ra rc : RE} {pos : Pos}
/-- x, y = a, a new list of one's own -/
def rPar2O (i j : Nat) (ra rc : RE) : RS := fun D ρ => ra ρ fun d => rc ρ fun l => D.nx ((ρ.set i (.val d)).set j (.own l))
theorem s_par2O (i j : Nat) {x y : Str} {px py pt : Pos} {kt k2 pt2} (hcm : X.calm = true) (hN : X.N.Nodup) (h1 : DE X true a ta ra) (h2 : DF X c tc rc) (hi : X.N[i]? = some x := by rfl) (hj : X.N[j]? = some y := by rfl) (hij : i ≠ j := by decide)
    (hx : X.env.scope.names.lookup x = some .local := by rfl) (hy : X.env.scope.names.lookup y = some .local := by rfl)
    (e1 : starEach [a, c] X.env = (false, eval a X.env) :: starEach [c] X.env := by rfl) (e2 : starEach [c] X.env = (false, eval c X.env) :: starEach [] X.env := by rfl)
    (hw : swappedStores [.Tuple [.Name x px, .Name y py] kt pt] (.Tuple [a, c] k2 pt2) X.env = pure (some [x, y]) := by rfl)
    (hs : swapsWithSole [.Tuple [.Name x px, .Name y py] kt pt] (.Tuple [a, c] k2 pt2) pos.line X.env = pure false := by rfl) :
    DS X (.Assign [.Tuple [.Name x px, .Name y py] kt pt] (.Tuple [a, c] k2 pt2) pos) (rPar2O i j ra rc) :=
  ⟨_, ps_par hcm hN hi hj hij hx hy (pa_cons h1.pe (pa_cons h2.pe pa_nil e2) e1) hw hs, fun Φ own ρ σ H D E R h l => by
    refine h1.rd Φ own ρ σ H _ _ R h fun v1 H1 d1 R1 g1 r1 q1 => h2.rd Φ own ρ σ H1 _ _ R1 q1 fun p H2 d2 R2 g2 n ok q2 => ?_
    refine ⟨v1, .ref p, rfl, ?_⟩
    have S1 := R1.setVal i r1
    have S2 := R2.setVal i (r1.mono' (Rel.B_to n) (R1.keeps g2))
    exact l.nx (p :: own) _ _ H2 (S1.setOwn n S2 ok j) ((R.evo g1).trans fun a o hb e => ⟨g2 a o (R1.sxB hb) e, Rel.B_to n a hb (by rw [e]; exact fun z => nomatch z)⟩) q2⟩
/-- the promise of a def that is never called so -/
theorem df_none {P : Program} {w : World} {K : PySem.W.Frag} {mg : Str → Option Value} {base : Heap} {x q : Str} {st : Stmt} {f : Addr} {fd : FuncData} {ps : List Str} {k n : Nat} {Fs : DSp} (F : Fun K x q st f fd) (gm : mg x = some (.ref f))
    (hb : ∀ (kV doc pm : Value) (an : Option Addr) (cdv ct : Value) (us : List Value), us.length = ps.length → bindArgs (PySem.W.fnOf x q (defArgs st) (defBody st) (defScope st) .none kV doc pm an cdv ct) ⟨us, []⟩ = pure (ps.zip us))
    (hF : ∀ ds Q, ¬ Fs ds Q) : Df P w K mg base x k (spS ⟨K, w⟩ n Fs) :=
  ⟨f, fd, ps, gm, F.kp, F.binds hb, ⟨fun vs H Q E h => by obtain ⟨_, _, _, _, ds, R, _, _, _, _, _, _, _, h, _⟩ := h; exact (hF ds R h).elim,
    fun A outer s H args us vs Q E _ _ _ _ h => by obtain ⟨_, _, _, _, ds, R, _, _, _, _, _, _, _, h, _⟩ := h; exact (hF ds R h).elim⟩⟩
end
theorem RoomG.u0 {k : Nat} {A : Around} (h : RoomG k A) : A.units < cLine := by have := h.u; omega
end DL
end
section
set_option maxRecDepth 100000
/-! K49math: rows of powers and numbers: put together, sorted. -/
namespace K49
open PySem PySem.Spec PyProof.Rows L2 DL

/-! ### sizes of ints -/
def small (n : Nat) (i : Int) : Prop := i.natAbs < 2 ^ n
theorem small.mono {a b : Nat} {i : Int} (h : small a i) (l : a ≤ b) : small b i := Nat.lt_of_lt_of_le h (Nat.pow_le_pow_right (by decide) l)
theorem mulW {i j : Int} {a b : Nat} (ha : small a i) (hb : small b j) (h : a + b + 2 ≤ 1000000) : CMulA i j :=
  .inr <| wide_mul (a := a + 1) (b := b + 1) (ha.mono (by omega)) (hb.mono (by omega)) (by omega) (by omega) (by omega)
theorem small.mul {i j : Int} {a b : Nat} (ha : small a i) (hb : small b j) : small (a + b) (i * j) := wide_lt ha hb
theorem small.add {i j : Int} {a : Nat} (ha : small a i) (hb : small a j) : small (a + 1) (i + j) := by
  unfold small at *
  have : (i + j).natAbs ≤ i.natAbs + j.natAbs := Int.natAbs_add_le i j
  rw [Nat.pow_succ]; omega
theorem small.neg {i : Int} {a : Nat} (ha : small a i) : small a (-i) := by unfold small at *; rw [Int.natAbs_neg]; exact ha
theorem small.sub {i j : Int} {a : Nat} (ha : small a i) (hb : small a j) : small (a + 1) (i - j) := by rw [Int.sub_eq_add_neg]; exact ha.add hb.neg
theorem small.pow {a : Int} {m : Nat} (h : small m a) : ∀ k : Nat, small (m * k + 1) (a ^ k)
  | 0 => by simp [small]
  | k + 1 => by
    rw [Int.pow_succ]
    exact ((h.pow k).mul h).mono (by rw [Nat.mul_succ]; omega)
theorem small.log {i : Int} {a : Nat} (h : small a i) (h0 : 0 < a) : i.natAbs.log2 < a := PySem.Flt.log2_lt_of h0 h
theorem small_int {i : Int} {a : Nat} (h : i.natAbs < 2 ^ a) : small a i := h
theorem cfd {i j : Int} {a : Nat} (h0 : j ≠ 0) (h : small 13400 i) : CFd i j := ⟨h0, .inr (Nat.lt_of_lt_of_le (h.log (by decide)) (by decide))⟩
abbrev Row := List Int × Int
def kD (k : List Int) : D := .tup (k.map D.int)
def rowD (r : Row) : D := .tup [kD r.1, .int r.2]
def mD (m : List Row) : D := .tup (m.map rowD)
theorem rowD_e (r : Row) : rowD r = .tup [.tup (r.1.map D.int), .int r.2] := rfl
def nk (k : List Int) : NestedKey := .tup (k.map NestedKey.num)
theorem keysD_nums : ∀ k : List Int, keysD (k.map NestedKey.num) = k.map D.int
  | [] => by simp [keysD]
  | a :: k => by simp [keysD, keyD, keysD_nums k]
theorem keyD_nk (k : List Int) : keyD (nk k) = kD k := by simp [nk, kD, keyD, keysD_nums]
theorem nk_inj {a b : List Int} (h : nk a = nk b) : a = b := by
  unfold nk at h
  injection h with h
  exact (List.map_inj_right (fun x y e => by injection e)).mp h
theorem nk_depths : ∀ k : List Int, NestedKey.depthAll (k.map NestedKey.num) = 0
  | [] => rfl
  | a :: k => by rw [List.map_cons, NestedKey.depthAll, nk_depths k]; rfl
theorem nk_depth (k : List Int) : (nk k).depth = 1 := by unfold nk; rw [NestedKey.depth, nk_depths]
theorem nk_ok (k : List Int) : KeyOk (kD k) (nk k) := ⟨(keyD_nk k).symm, by rw [nk_depth]; decide, _, rfl⟩
def encA (as : List Row) : List (NestedKey × D) := as.map fun r => (nk r.1, .int r.2)
def atA (as : List Row) (k : List Int) : Option Int := (as.find? fun r => decide (r.1 = k)).map (·.2)
def putA (as : List Row) (k : List Int) (v : Int) : List Row := if (atA as k).isSome = true then as.map (fun r => if r.1 = k then (r.1, v) else r) else as ++ [(k, v)]
theorem atA_cons {r : Row} {as : List Row} {k : List Int} : atA (r :: as) k = if r.1 = k then some r.2 else atA as k := by
  unfold atA
  rw [List.find?_cons]
  by_cases e : r.1 = k <;> simp [e]
theorem atN_enc {k : List Int} : ∀ {as : List Row}, atN (encA as) (nk k) = (atA as k).map D.int
  | [] => rfl
  | r :: as => by
    show atN ((nk r.1, D.int r.2) :: encA as) (nk k) = _
    rw [atN_cons, atA_cons]
    by_cases e : r.1 = k
    · rw [if_pos (by rw [e]), if_pos e]; rfl
    · rw [if_neg (fun z => e (nk_inj z)), if_neg e, atN_enc]
theorem putN_enc {as : List Row} {k : List Int} {v : Int} : putN (encA as) (nk k) (.int v) = encA (putA as k v) := by
  unfold putN putA
  rw [atN_enc, Option.isSome_map]
  by_cases h : (atA as k).isSome = true
  · rw [if_pos h, if_pos h]
    unfold encA
    rw [List.map_map, List.map_map]
    refine List.map_congr_left fun r _ => ?_
    simp only [Function.comp]
    by_cases e : r.1 = k
    · rw [if_pos (by rw [e]), if_pos e]
    · rw [if_neg (fun z => e (nk_inj z)), if_neg e]
  · rw [if_neg h, if_neg h]
    simp [encA]
def step (as : List Row) (r : Row) : List Row := putA as r.1 ((atA as r.1).getD 0 + r.2)
def asm (rows : List Row) : List Row := rows.foldl step []
def coef : List Row → List Int → Int
  | [], _ => 0
  | r :: rs, k => (if r.1 = k then r.2 else 0) + coef rs k
theorem coef_append {k : List Int} : ∀ {a b : List Row}, coef (a ++ b) k = coef a k + coef b k
  | [], b => by simp [coef]
  | r :: a, b => by rw [List.cons_append, coef, coef, coef_append]; omega
theorem coef_perm {k : List Int} {a b : List Row} (h : a.Perm b) : coef a k = coef b k := by
  induction h with
  | nil => rfl
  | cons x _ ih => simp only [coef, ih]
  | swap x y l => simp only [coef]; omega
  | trans _ _ h1 h2 => exact h1.trans h2
theorem atA_map {k k' : List Int} {v : Int} : ∀ {as : List Row}, atA (as.map fun r => if r.1 = k then (r.1, v) else r) k' = if k = k' then (atA as k').map (fun _ => v) else atA as k'
  | [] => by simp [atA]
  | r :: as => by
    rw [List.map_cons, atA_cons, atA_cons, atA_map]
    by_cases e : r.1 = k
    · by_cases e2 : k = k'
      · subst e2; simp [e]
      · have : r.1 ≠ k' := fun z => e2 (e.symm.trans z)
        simp [e, e2]
    · by_cases e2 : k = k'
      · subst e2; simp [e]
      · simp [e, e2]
theorem atA_append {k : List Int} {a b : List Row} : atA (a ++ b) k = (atA a k).or (atA b k) := by
  unfold atA
  rw [List.find?_append]
  cases List.find? (fun r => decide (r.1 = k)) a <;> rfl
theorem atA_put {as : List Row} {k k' : List Int} {v : Int} : atA (putA as k v) k' = if k = k' then some v else atA as k' := by
  unfold putA
  by_cases h : (atA as k).isSome = true
  · rw [if_pos h, atA_map]
    by_cases e : k = k'
    · subst e
      rw [if_pos rfl, if_pos rfl]
      obtain ⟨x, hx⟩ := Option.isSome_iff_exists.mp h
      rw [hx]; rfl
    · rw [if_neg e, if_neg e]
  · rw [if_neg h, atA_append, atA_cons]
    have hn : atA as k = none := by simpa using h
    by_cases e : k = k'
    · subst e; simp [hn]
    · simp [e, atA]
theorem keys_put {as : List Row} {k : List Int} {v : Int} (h : (as.map (·.1)).Nodup) : ((putA as k v).map (·.1)).Nodup := by
  unfold putA
  by_cases e : (atA as k).isSome = true
  · rw [if_pos e, List.map_map]
    have : ((fun x : Row => x.1) ∘ fun r => if r.1 = k then (r.1, v) else r) = fun x => x.1 := by
      funext x; simp only [Function.comp]; split <;> rfl
    rw [this]; exact h
  · rw [if_neg e, List.map_append, List.map_singleton, List.nodup_append]
    refine ⟨h, by simp, fun a ha b hb => ?_⟩
    have eb : b = k := by simpa using hb
    rw [eb]
    rintro rfl
    obtain ⟨r, hr, rfl⟩ := List.mem_map.mp ha
    apply e
    unfold atA
    rw [Option.isSome_map, List.find?_isSome]
    exact ⟨r, hr, by simp⟩
theorem asm_facts : ∀ (rows as : List Row), (as.map (·.1)).Nodup → ((rows.foldl step as).map (·.1)).Nodup ∧ ∀ k, (atA (rows.foldl step as) k).getD 0 = (atA as k).getD 0 + coef rows k
  | [], as, h => ⟨h, fun k => by simp [coef]⟩
  | r :: rows, as, h => by
    obtain ⟨h1, h2⟩ := asm_facts rows (step as r) (keys_put h)
    refine ⟨h1, fun k => ?_⟩
    rw [List.foldl_cons, h2 k]
    unfold step
    rw [atA_put, coef]
    by_cases e : r.1 = k
    · subst e; simp; omega
    · simp [e]
theorem asm_keys (rows : List Row) : ((asm rows).map (·.1)).Nodup := (asm_facts rows [] .nil).1
theorem asm_at (rows : List Row) (k : List Int) : (atA (asm rows) k).getD 0 = coef rows k := by
  have := (asm_facts rows [] .nil).2 k
  simpa [asm, atA] using this
theorem mem_at : ∀ {as : List Row} {r : Row}, (as.map (·.1)).Nodup → r ∈ as → atA as r.1 = some r.2
  | [], r, _, h => by simp at h
  | a :: as, r, hn, h => by
    rw [List.map_cons, List.nodup_cons] at hn
    rw [atA_cons]
    rcases List.mem_cons.mp h with rfl | h
    · rw [if_pos rfl]
    · rw [if_neg (fun z => hn.1 (by rw [z]; exact List.mem_map.mpr ⟨r, h, rfl⟩)), mem_at hn.2 h]
theorem at_mem : ∀ {as : List Row} {k : List Int} {v : Int}, atA as k = some v → (k, v) ∈ as
  | [], k, v, h => by simp [atA] at h
  | a :: as, k, v, h => by
    rw [atA_cons] at h
    by_cases e : a.1 = k
    · rw [if_pos e] at h
      have : a = (k, v) := by cases h; rw [← e]
      rw [this]; exact List.mem_cons_self
    · rw [if_neg e] at h
      exact List.mem_cons_of_mem _ (at_mem h)
theorem mem_asm {rows : List Row} {r : Row} (h : r.2 ≠ 0) : r ∈ asm rows ↔ r.2 = coef rows r.1 := by
  constructor
  · intro hm
    have := mem_at (asm_keys rows) hm
    rw [← asm_at, this]; rfl
  · intro e
    have a := asm_at rows r.1
    cases hx : atA (asm rows) r.1 with
    | none => rw [hx] at a; exact absurd (e.trans a.symm) h
    | some v =>
      rw [hx] at a
      have : v = r.2 := by rw [e]; exact a
      subst this
      exact at_mem hx

/-! ### the order -/
theorem pds_ints : ∀ k : List Int, D.pds (k.map D.int) = k.map PyData.int
  | [] => by simp [D.pds]
  | a :: k => by simp [D.pds, D.pd, pds_ints k]
theorem kD_pd (k : List Int) : (kD k).pd = .tuple (k.map PyData.int) := by simp only [kD, D.pd, pds_ints]
theorem rowD_pd (r : Row) : (rowD r).pd = .tuple [.tuple (r.1.map PyData.int), .int r.2] := by simp only [rowD, D.pd, D.pds, kD_pd]
def leK (a b : List Int) : Bool := PySem.W.dataLe false (fun k => (kD k).pd) a b
def leR (a b : Row) : Bool := PySem.W.dataLe false (fun r => (rowD r).pd) a b
theorem totK : PySem.W.TotalLe leK := PySem.W.sortLe_total (PyProof.Rows.listOrd PyProof.Rows.itemOrd) false fun k => PySem.W.keyToks (kD k).pd
theorem totR : PySem.W.TotalLe leR := PySem.W.sortLe_total (PyProof.Rows.listOrd PyProof.Rows.itemOrd) false fun r => PySem.W.keyToks (rowD r).pd
theorem alikes_int : ∀ a b : List Int, PySem.W.alikeAll (a.map PyData.int) (b.map PyData.int) = true
  | [], [] => by simp [PySem.W.alikeAll]
  | [], _ :: _ => by simp [PySem.W.alikeAll]
  | _ :: _, [] => by simp [PySem.W.alikeAll]
  | x :: a, y :: b => by simp [PySem.W.alikeAll, PySem.W.alike, alikes_int a b]
theorem alikeK (a b : List Int) : PySem.W.alike (.tuple (a.map PyData.int)) (.tuple (b.map PyData.int)) = true := by simp only [PySem.W.alike, alikes_int]
theorem alikeR (a b : Row) : PySem.W.alike (rowD a).pd (rowD b).pd = true := by
  rw [rowD_pd, rowD_pd]; simp only [PySem.W.alike, PySem.W.alikeAll, alikes_int, Bool.and_self]
theorem eqvs_int : ∀ {a b : List Int}, PyData.eqvAll (a.map PyData.int) (b.map PyData.int) = true → a = b
  | [], [], _ => rfl
  | [], _ :: _, h => by simp [PyData.eqvAll] at h
  | _ :: _, [], h => by simp [PyData.eqvAll] at h
  | x :: a, y :: b, h => by
    simp only [List.map_cons, PyData.eqvAll, PyData.eqv, Bool.and_eq_true, beq_iff_eq] at h
    rw [h.1, eqvs_int h.2]
theorem leR_leK {a b : Row} (h : a.1 ≠ b.1) : leR a b = leK a.1 b.1 := by
  show (!PySem.W.dataLt (rowD b).pd (rowD a).pd) = (!PySem.W.dataLt (kD b.1).pd (kD a.1).pd)
  rw [rowD_pd, rowD_pd, kD_pd, kD_pd, PySem.W.dataLt_pair (alikeK _ _) (by simp only [PySem.W.alike])]
  rw [if_neg (fun e => h (eqvs_int (by simpa only [PyData.eqv] using e)).symm)]
theorem toks_inj : ∀ {a b : List Int}, PySem.W.keyToksAll (a.map PyData.int) = PySem.W.keyToksAll (b.map PyData.int) → a = b
  | [], [], _ => rfl
  | [], _ :: _, h => by simp [PySem.W.keyToksAll] at h
  | _ :: _, [], h => by simp [PySem.W.keyToksAll] at h
  | x :: a, y :: b, h => by
    simp only [List.map_cons, PySem.W.keyToksAll, PySem.W.keyToks, List.cons_append, List.nil_append, List.cons.injEq, true_and] at h
    obtain ⟨h1, h2⟩ := h
    injection h1 with h1
    rw [h1, toks_inj h2]
theorem antiK {a b : List Int} (h1 : leK a b = true) (h2 : leK b a = true) : a = b := by
  unfold leK PySem.W.dataLe PySem.W.sortLe at h1 h2
  simp only [cond_false, Bool.not_eq_true'] at h1 h2
  have h := (PyProof.Rows.listOrd PyProof.Rows.itemOrd).total _ _ h2 h1
  rw [kD_pd, kD_pd] at h
  simp only [PySem.W.keyToks] at h
  exact toks_inj h
theorem antiR {as : List Row} (hn : (as.map (·.1)).Nodup) {a b : Row} (ha : a ∈ as) (hb : b ∈ as) (h1 : leR a b = true) (h2 : leR b a = true) : a = b := by
  by_cases e : a.1 = b.1
  · have x := mem_at hn ha
    rw [e, mem_at hn hb] at x
    injection x with x
    exact Prod.ext e x.symm
  · rw [leR_leK e] at h1
    rw [leR_leK (Ne.symm e)] at h2
    exact absurd (antiK h1 h2) e
/-- the rows of a mean: each key once, no zeros, in order -/
theorem nodup_of : ∀ {m : List Row}, (m.map (·.1)).Nodup → m.Nodup
  | [], _ => .nil
  | a :: m, h => by
    rw [List.map_cons, List.nodup_cons] at h
    exact List.nodup_cons.mpr ⟨fun e => h.1 (List.mem_map.mpr ⟨a, e, rfl⟩), nodup_of h.2⟩
structure Canon (m : List Row) : Prop where
  keys : (m.map (·.1)).Nodup
  nz : ∀ r ∈ m, r.2 ≠ 0
  sorted : m.Pairwise fun a b => leR a b = true
def canon (rows : List Row) : List Row := ((asm rows).filter fun r => decide (r.2 ≠ 0)).mergeSort leR
theorem nodup_sub {a b : List Row} (h : a.Sublist b) (n : (b.map (·.1)).Nodup) : (a.map (·.1)).Nodup := (h.map (·.1)).nodup n
theorem canon_ok (rows : List Row) : Canon (canon rows) where
  keys := ((List.mergeSort_perm _ _).map _).nodup_iff.mpr (nodup_sub List.filter_sublist (asm_keys rows))
  nz r h := by
    have := (List.mergeSort_perm _ _).mem_iff.mp h
    simpa using (List.mem_filter.mp this).2
  sorted := List.pairwise_mergeSort totR.trans (fun a b => by rw [Bool.or_eq_true]; exact totR.total a b) _
theorem mem_canon {rows : List Row} {r : Row} : r ∈ canon rows ↔ r.2 ≠ 0 ∧ r.2 = coef rows r.1 := by
  unfold canon
  rw [(List.mergeSort_perm _ _).mem_iff, List.mem_filter, decide_eq_true_eq]
  exact ⟨fun ⟨a, b⟩ => ⟨b, (mem_asm b).mp a⟩, fun ⟨a, b⟩ => ⟨(mem_asm a).mpr b, a⟩⟩
theorem coef_none {k : List Int} : ∀ {m : List Row}, k ∉ m.map (·.1) → coef m k = 0
  | [], _ => rfl
  | r :: m, h => by
    rw [List.map_cons, List.mem_cons, not_or] at h
    rw [coef, if_neg (Ne.symm h.1), coef_none h.2]; rfl
theorem coef_mem : ∀ {m : List Row} {r : Row}, (m.map (·.1)).Nodup → r ∈ m → coef m r.1 = r.2
  | [], r, _, h => by simp at h
  | a :: m, r, hn, h => by
    rw [List.map_cons, List.nodup_cons] at hn
    rw [coef]
    rcases List.mem_cons.mp h with rfl | h
    · rw [if_pos rfl, coef_none hn.1, Int.add_zero]
    · rw [if_neg (fun z => hn.1 (by rw [z]; exact List.mem_map.mpr ⟨r, h, rfl⟩)), coef_mem hn.2 h, Int.zero_add]
theorem Canon.mem {m : List Row} (h : Canon m) {r : Row} : r ∈ m ↔ r.2 ≠ 0 ∧ r.2 = coef m r.1 := by
  constructor
  · intro hm; exact ⟨h.nz r hm, (coef_mem h.keys hm).symm⟩
  · rintro ⟨a, b⟩
    by_cases e : r.1 ∈ m.map (·.1)
    · obtain ⟨x, hx, e⟩ := List.mem_map.mp e
      have := coef_mem h.keys hx
      rw [e, ← b] at this
      have : x = r := Prod.ext e this.symm
      rw [← this]; exact hx
    · exact absurd (b.trans (coef_none e)) a
theorem Canon.rows {m : List Row} (h : Canon m) : m.Nodup := nodup_of h.keys
/-- two means with the same numbers are one -/
theorem Canon.ext {a b : List Row} (ha : Canon a) (hb : Canon b) (h : ∀ k, coef a k = coef b k) : a = b := by
  have hm : ∀ r, r ∈ a ↔ r ∈ b := fun r => by rw [ha.mem, hb.mem, h]
  have hp : a.Perm b := (List.perm_ext_iff_of_nodup ha.rows hb.rows).mpr hm
  exact List.Perm.eq_of_pairwise (le := fun a b => leR a b = true) (fun x y hx hy h1 h2 => antiR ha.keys hx ((hm y).mpr hy) h1 h2) ha.sorted hb.sorted hp
theorem coef_canon (rows : List Row) (k : List Int) : coef (canon rows) k = coef rows k := by
  by_cases e : coef rows k = 0
  · rw [e]
    refine coef_none fun h => ?_
    obtain ⟨r, hr, rfl⟩ := List.mem_map.mp h
    obtain ⟨h1, h2⟩ := mem_canon.mp hr
    exact h1 (h2.trans e)
  · have : (k, coef rows k) ∈ canon rows := mem_canon.mpr ⟨e, rfl⟩
    exact coef_mem (canon_ok rows).keys this
theorem canon_same {a b : List Row} (h : ∀ k, coef a k = coef b k) : canon a = canon b := (canon_ok a).ext (canon_ok b) fun k => by rw [coef_canon, coef_canon, h]
theorem canon_len (rows : List Row) : (canon rows).length ≤ rows.length := by
  unfold canon
  rw [List.length_mergeSort]
  refine Nat.le_trans (List.length_filter_le _ _) ?_
  have : ∀ {rows as : List Row}, (rows.foldl step as).length ≤ as.length + rows.length := by
    intro rows
    induction rows with
    | nil => intro as; simp
    | cons r rows ih =>
      intro as
      have h1 := ih (as := step as r)
      have h2 : (step as r).length ≤ as.length + 1 := by unfold step putA; split <;> simp
      rw [List.foldl_cons, List.length_cons]; omega
  have := this (rows := rows) (as := [])
  simpa [asm] using this
theorem Canon.canon {m : List Row} (h : Canon m) : canon m = m := (canon_ok m).ext h (coef_canon m)
theorem canon_zero {a : List Row} (h : ∀ k, coef a k = 0) : canon a = [] := (canon_ok a).ext ⟨.nil, by simp, .nil⟩ fun k => by rw [coef_canon, h]; rfl
theorem fm_congr {α β : Type} {f g : α → Option β} : ∀ {l : List α}, (∀ a ∈ l, f a = g a) → l.filterMap f = l.filterMap g
  | [], _ => rfl
  | a :: l, h => by rw [List.filterMap_cons, List.filterMap_cons, h a List.mem_cons_self, fm_congr fun b hb => h b (List.mem_cons_of_mem _ hb)]
/-- the law's own way: the keys sorted, the zeros left out -/
theorem canon_put (rows : List Row) : (((asm rows).map (·.1)).mergeSort leK).filterMap (fun k => if (atA (asm rows) k).getD 0 ≠ 0 then some (k, (atA (asm rows) k).getD 0) else none) = K49.canon rows := by
  have hn := asm_keys rows
  have e1 : ((asm rows).map (·.1)).mergeSort leK = ((asm rows).mergeSort leR).map (·.1) := (PySem.W.sort_maps (r := leR) (s := leK) (l := asm rows) (fun x : Row => x.1) fun a ha b hb => by
    by_cases e : a.1 = b.1
    · have x := mem_at hn ha
      rw [e, mem_at hn hb] at x
      injection x with x
      have : a = b := Prod.ext e x.symm
      subst this
      rw [show leR a a = true by simpa using totR.total a a, show leK a.1 a.1 = true by simpa using totK.total a.1 a.1]
    · exact leR_leK e).symm
  rw [e1, List.filterMap_map]
  have e2 : ((asm rows).mergeSort leR).filterMap ((fun k => if (atA (asm rows) k).getD 0 ≠ 0 then some (k, (atA (asm rows) k).getD 0) else none) ∘ fun x => x.1) = ((asm rows).mergeSort leR).filter (fun r => decide (r.2 ≠ 0)) := by
    rw [← List.filterMap_eq_filter]
    refine fm_congr fun r hr => ?_
    have hr' := (List.mergeSort_perm _ _).mem_iff.mp hr
    simp only [Function.comp, mem_at hn hr', Option.getD_some, Option.guard, decide_eq_true_eq]
  rw [e2]
  have hp : (((asm rows).mergeSort leR).filter fun r => decide (r.2 ≠ 0)).Perm (K49.canon rows) := ((List.mergeSort_perm _ _).filter _).trans (List.mergeSort_perm _ _).symm
  have hs : (((asm rows).mergeSort leR).filter fun r => decide (r.2 ≠ 0)).Pairwise fun a b => leR a b = true := (List.pairwise_mergeSort totR.trans (fun a b => by rw [Bool.or_eq_true]; exact totR.total a b) _).filter _
  refine List.Perm.eq_of_pairwise (le := fun a b => leR a b = true) (fun x y hx hy h1 h2 => ?_) hs (canon_ok rows).sorted hp
  exact antiR (canon_ok rows).keys (hp.mem_iff.mp hx) hy h1 h2
/-! ### fractions as rational numbers -/
def frG (p q : Int) : Int := if q > 0 then (Int.gcd p q : Int) else -(Int.gcd p q : Int)
def fr (p q : Int) : Int × Int := (p.fdiv (frG p q), q.fdiv (frG p q))
theorem gcd_pos {p q : Int} (h : q ≠ 0) : 0 < Int.gcd p q := Int.gcd_pos_iff.mpr (.inr h)
theorem frG_ne {p q : Int} (h : q ≠ 0) : frG p q ≠ 0 := by
  have := gcd_pos (p := p) h
  unfold frG
  split <;> omega
def frac (r : Rat) : Int × Int := (r.num, r.den)
theorem fdiv_mul {g k : Int} (h : g ≠ 0) : (g * k).fdiv g = k := Int.mul_fdiv_cancel_left k h
theorem fr_scale {g a b : Int} (hg : g ≠ 0) (hb : 0 < b) (hc : Int.gcd a b = 1) : fr (g * a) (g * b) = (a, b) := by
  have e : frG (g * a) (g * b) = g := by
    unfold frG
    rw [Int.gcd_mul_left, hc, Nat.mul_one]
    by_cases h : 0 < g
    · rw [if_pos (Int.mul_pos h hb)]; omega
    · rw [if_neg (by have := Int.mul_nonneg (show 0 ≤ -g by omega) (Int.le_of_lt hb); rw [Int.neg_mul] at this; omega)]; omega
  unfold fr
  rw [e, fdiv_mul hg, fdiv_mul hg]
theorem fr_frac {p q : Int} (hq : q ≠ 0) : fr p q = frac ((p : Rat) / (q : Rat)) := by
  have hq' : (q : Rat) ≠ 0 := by simpa using hq
  generalize hr : ((p : Rat) / (q : Rat)) = r
  have h1 : r = Rat.divInt p q := by rw [Rat.divInt_eq_div, hr]
  have h2 : Rat.divInt r.num r.den = Rat.divInt p q := by rw [Rat.num_divInt_den, h1]
  rw [Rat.divInt_eq_divInt_iff (by exact_mod_cast r.den_nz) hq] at h2
  have hd : (r.den : Int) ∣ q := by
    have : (r.den : Int) ∣ r.num * q := ⟨p, by rw [h2, Int.mul_comm]⟩
    have hc : Int.gcd r.den r.num = 1 := by rw [Int.gcd_comm]; exact r.reduced
    have h3 := Int.dvd_gcd_mul_iff_dvd_mul.mpr this
    rw [hc] at h3
    simpa using h3
  obtain ⟨g, rfl⟩ := hd
  have hg : g ≠ 0 := fun e => hq (by rw [e, Int.mul_zero])
  have hp : p = g * r.num := by
    have : (r.den : Int) * p = (r.den : Int) * (g * r.num) := by rw [Int.mul_comm _ p, ← h2]; grind
    exact Int.eq_of_mul_eq_mul_left (by exact_mod_cast r.den_nz) this
  rw [hp, Int.mul_comm _ g]
  exact fr_scale hg (by have := r.den_nz; omega) r.reduced
theorem frac_div (r : Rat) : ((frac r).1 : Rat) / ((frac r).2 : Rat) = r := by
  unfold frac
  rw [← Rat.divInt_eq_div, Rat.num_divInt_den]
theorem frac_pos (r : Rat) : 0 < (frac r).2 := by have := r.den_nz; unfold frac; simp only; omega
theorem frac_inj {r s : Rat} (h : frac r = frac s) : r = s := by rw [← frac_div r, ← frac_div s, h]
/-! ### steps of the loops -/
theorem of_map {α β : Type} {f : α → β} {m : List α} {k : Nat} {d : β} (h : (m.map f)[k]? = some d) : ∃ r, m[k]? = some r ∧ d = f r := by
  rw [List.getElem?_map] at h
  cases e : m[k]? with
  | none => rw [e] at h; cases h
  | some r => rw [e] at h; cases h; exact ⟨r, rfl, rfl⟩
theorem getD_enc {as : List Row} {k : List Int} {x : Int} : (atN (encA as) (nk k)).getD (.int x) = .int ((atA as k).getD x) := by
  rw [atN_enc]; cases atA as k <;> rfl
theorem put_len {as : List Row} {k : List Int} {v : Int} : (putA as k v).length ≤ as.length + 1 := by
  unfold putA; split <;> simp
theorem steps_len : ∀ {rows as : List Row}, (rows.foldl step as).length ≤ as.length + rows.length
  | [], as => by simp
  | r :: rows, as => by
    have h1 := steps_len (rows := rows) (as := step as r)
    have h2 : (step as r).length ≤ as.length + 1 := put_len
    rw [List.foldl_cons, List.length_cons]; omega
theorem step_len {m : List Row} {k : Nat} (h : m.length ≤ 10000) : (encA ((m.take k).foldl step [])).length < sizeLine := by
  have h1 := steps_len (rows := m.take k) (as := [])
  rw [List.length_take] at h1
  unfold encA sizeLine
  rw [List.length_map]
  have : (2:Nat) ^ 24 = 16777216 := by decide
  rw [this]
  simp only [List.length_nil] at h1
  omega
theorem take_step {α β : Type} {f : β → α → β} {b : β} {m : List α} {k : Nat} {r : α} (h : m[k]? = some r) : (m.take (k + 1)).foldl f b = f ((m.take k).foldl f b) r := by
  rw [List.take_add_one, h, List.foldl_append]; rfl
theorem items_enc : ∀ {as : List Row}, itemsD (encA as) = as.map rowD
  | [] => rfl
  | r :: as => by
    have h := items_enc (as := as)
    unfold itemsD encA at h ⊢
    rw [List.map_cons, List.map_cons, h, keyD_nk]; rfl
theorem filter_step {α : Type} {p : α → Bool} {m : List α} {k : Nat} {r : α} (h : m[k]? = some r) : (m.take (k + 1)).filter p = (m.take k).filter p ++ (if p r = true then [r] else []) := by
  rw [List.take_add_one, h, List.filter_append]
  by_cases e : p r = true <;> simp [e]
theorem enc_len {as : List Row} (h : as.length ≤ 10000) : (encA as).length ≤ sizeLine := by
  unfold encA sizeLine
  rw [List.length_map]
  have : (2:Nat) ^ 24 = 16777216 := by decide
  omega
theorem vImm_enc {as : List Row} : vImm (encA as) := fun x hx => by
  obtain ⟨r, _, rfl⟩ := List.mem_map.mp hx
  rfl
theorem immK : ∀ k : List Int, D.immL (k.map D.int) = true
  | [] => by simp [D.immL]
  | a :: k => by simp [D.immL, D.imm, immK k]
theorem kD_imm (k : List Int) : (kD k).imm = true := by simp only [kD, D.imm, immK]
theorem rowD_imm (r : Row) : (rowD r).imm = true := by simp only [rowD, D.imm, D.immL, kD_imm, Bool.and_self]
theorem rows_imm : ∀ m : List Row, D.immL (m.map rowD) = true
  | [] => by simp [D.immL]
  | a :: m => by simp [D.immL, rowD_imm, rows_imm m]
theorem mD_imm (m : List Row) : (mD m).imm = true := by simp only [mD, D.imm, rows_imm]
theorem depths_int : ∀ k : List Int, PyData.depthAll (k.map PyData.int) = 0
  | [] => by simp [PyData.depthAll]
  | a :: k => by simp [PyData.depthAll, PyData.depth, depths_int k]
theorem sortOk_rows {m : List Row} (h : m.length ≤ 10000) : sortOk (m.map rowD) := by
  refine ⟨rows_imm m, ?_, .inl ?_, ?_, ?_⟩
  · intro d hd d' hd'
    obtain ⟨x, hx, rfl⟩ := List.mem_map.mp hd
    obtain ⟨r, _, rfl⟩ := List.mem_map.mp hx
    obtain ⟨x, hx, rfl⟩ := List.mem_map.mp hd'
    obtain ⟨r, _, rfl⟩ := List.mem_map.mp hx
    exact alikeR _ _
  · intro d hd
    obtain ⟨x, hx, rfl⟩ := List.mem_map.mp hd
    obtain ⟨r, _, rfl⟩ := List.mem_map.mp hx
    exact ⟨_, _, rowD_pd r⟩
  · have := enc_len h
    unfold encA at this
    rw [List.length_map] at this ⊢; exact this
  · intro d hd
    obtain ⟨r, _, rfl⟩ := List.mem_map.mp hd
    rw [rowD_pd]
    simp [PyData.depth, PyData.depthAll, depths_int]
theorem sortD_rows {m : List Row} : sortD (m.map rowD) = (m.mergeSort leR).map rowD := (PySem.W.sort_maps rowD fun _ _ _ _ => rfl).symm
/-! ### sums, products, values -/
def scale (c : Int) (m : List Row) : List Row := m.map fun r => (r.1, c * r.2)
def padd : List Int → List Int → List Int
  | x :: a, y :: b => (x + y) :: padd a b
  | _, _ => []
def prod (a b : List Row) : List Row := a.flatMap fun r => b.map fun t => (padd r.1 t.1, r.2 * t.2)
def pw : List Int → List Int → Int
  | s :: a, p :: b => s ^ p.toNat * pw a b
  | _, _ => 1
def great (n : Nat) (m : List Row) : List Int := (List.range n).map fun k => (m.map fun r => r.1.getD k 0).foldl max 0
def sumR (f : List Int → Rat) : List Row → Rat
  | [] => 0
  | r :: m => (r.2 : Rat) * f r.1 + sumR f m
def mon (s k : List Int) : Rat := (1 : Rat) / (pw s k : Rat)
def val (s : List Int) (m : List Row) : Rat := sumR (mon s) m
theorem take_map {α β : Type} {f : α → β} {m : List α} {k : Nat} {r : α} (h : m[k]? = some r) : (m.take (k + 1)).map f = (m.take k).map f ++ [f r] := by
  rw [List.take_add_one, h, List.map_append]; rfl
theorem zip2_map {α β : Type} {f : α → D} {g : β → D} : ∀ {a : List α} {b : List β}, zip2D (a.map f) (b.map g) = (a.zip b).map fun p => D.tup [f p.1, g p.2]
  | [], [] => rfl
  | [], _ :: _ => rfl
  | _ :: _, [] => rfl
  | x :: a, y :: b => by rw [List.map_cons, List.map_cons, zip2D, zip2_map]; rfl
theorem padd_zip : ∀ {a b : List Int}, padd a b = (a.zip b).map fun p => p.1 + p.2
  | [], [] => rfl
  | [], _ :: _ => rfl
  | _ :: _, [] => rfl
  | x :: a, y :: b => by rw [padd, padd_zip]; rfl
theorem pw_zip : ∀ {a b : List Int} {x : Int}, (a.zip b).foldl (fun x p => x * p.1 ^ p.2.toNat) x = x * pw a b
  | [], [], x => by simp [pw]
  | [], _ :: _, x => by simp [pw]
  | _ :: _, [], x => by simp [pw]
  | s :: a, p :: b, x => by rw [List.zip_cons_cons, List.foldl_cons, pw_zip, pw]; rw [Int.mul_assoc]
theorem rep_rows {n : Nat} : (List.replicate n [D.int 0]).flatten = (List.replicate n (0 : Int)).map D.int := by
  induction n with
  | zero => rfl
  | succ n ih => rw [List.replicate_succ, List.flatten_cons, ih, List.replicate_succ]; rfl
theorem foldl_max {n : Int} : ∀ {r : List Int} {k : Int}, r.foldl max (max k n) = maxL (max k n) r := rfl
theorem great_of {ns : List Int} : (∀ x ∈ ns, 0 ≤ x) → (match ns with | [] => (0 : Int) | n :: r => maxL n r) = ns.foldl max 0 := by
  intro h
  cases ns with
  | nil => rfl
  | cons n r =>
    show r.foldl max n = r.foldl max (max 0 n)
    rw [Int.max_eq_right (h n List.mem_cons_self)]
theorem range_map {n : Nat} : rangeD 0 n = (List.range n).map fun (i : Nat) => D.int (i : Int) := by
  unfold rangeD
  congr 1; funext i; rw [Int.zero_add]
theorem range_get {n k i : Nat} (h : (List.range n)[k]? = some i) : i = k ∧ k < n := by
  obtain ⟨h1, h2⟩ := List.getElem?_eq_some_iff.mp h
  rw [List.getElem_range] at h2
  rw [List.length_range] at h1
  exact ⟨h2.symm, h1⟩
theorem kD_get {k : List Int} {i : Nat} (h : i < k.length) : atI (k.map D.int) (i : Int) = some (.int (k.getD i 0)) := by
  rw [atI_nat (j := i) (v := .int (k.getD i 0))]
  rw [List.getElem?_map, List.getElem?_eq_getElem h]
  simp [List.getD, List.getElem?_eq_getElem h]
theorem prod_cons {r : Row} {a b : List Row} : prod (r :: a) b = (b.map fun t => (padd r.1 t.1, r.2 * t.2)) ++ prod a b := rfl
theorem prod_append {b : List Row} : ∀ {a c : List Row}, prod (a ++ c) b = prod a b ++ prod c b := by
  intro a c; unfold prod; rw [List.flatMap_append]
theorem prod_one {r : Row} {b : List Row} : prod [r] b = b.map fun t => (padd r.1 t.1, r.2 * t.2) := by rw [prod_cons]; unfold prod; simp
theorem prod_step {a b : List Row} {k : Nat} {r : Row} (h : a[k]? = some r) : prod (a.take (k + 1)) b = prod (a.take k) b ++ b.map fun t => (padd r.1 t.1, r.2 * t.2) := by
  rw [List.take_add_one, h, prod_append]
  show _ ++ prod [r] b = _
  rw [prod_one]
theorem prod_len : ∀ {a b : List Row}, (prod a b).length = a.length * b.length
  | [], b => by unfold prod; simp
  | r :: a, b => by rw [prod_cons, List.length_append, List.length_map, prod_len, List.length_cons, Nat.succ_mul, Nat.add_comm]
def psub (g k : List Int) : List Int := (g.zip k).map fun p => p.1 - p.2
/-- all the powers of a row, against the greatest -/
def Below (g k : List Int) : Prop := g.length = k.length ∧ ∀ i, i < k.length → 0 ≤ k.getD i 0 ∧ k.getD i 0 ≤ g.getD i 0 ∧ g.getD i 0 ≤ 40
theorem Below.tail {x y : Int} {g k : List Int} (h : Below (x :: g) (y :: k)) : (0 ≤ y ∧ y ≤ x ∧ x ≤ 40) ∧ Below g k :=
  ⟨by simpa using h.2 0 (by simp), by simpa using h.1, fun i hi => by simpa using h.2 (i + 1) (by simpa using hi)⟩
theorem Below.sub : ∀ {g k : List Int}, Below g k → (psub g k).length = k.length ∧ ∀ x ∈ psub g k, 0 ≤ x ∧ x ≤ 40
  | [], [], _ => ⟨rfl, by simp [psub]⟩
  | [], _ :: _, h => by have := h.1; simp at this
  | _ :: _, [], h => by have := h.1; simp at this
  | x :: g, y :: k, h => by
    obtain ⟨h1, h2⟩ := h.tail
    obtain ⟨h3, h4⟩ := h2.sub
    refine ⟨by show (_ :: psub g k).length = _; simp [h3], fun z hz => ?_⟩
    rcases List.mem_cons.mp (show z ∈ (x - y) :: psub g k from hz) with rfl | hz
    · omega
    · exact h4 z hz
theorem Below.pw : ∀ {s g k : List Int}, Below g k → pw s g = pw s (psub g k) * pw s k
  | [], g, k, _ => by cases g <;> simp [K49.pw]
  | _ :: _, [], [], _ => by simp [K49.pw, psub]
  | _ :: _, [], _ :: _, h => by have := h.1; simp at this
  | _ :: _, _ :: _, [], h => by have := h.1; simp at this
  | t :: s, x :: g, y :: k, h => by
    obtain ⟨h1, h2⟩ := h.tail
    have ih := h2.pw (s := s)
    show t ^ x.toNat * K49.pw s g = (t ^ (x - y).toNat * K49.pw s (psub g k)) * (t ^ y.toNat * K49.pw s k)
    rw [ih, show x.toNat = (x - y).toNat + y.toNat by omega, Int.pow_add]
    grind
theorem pw_ne : ∀ {s k : List Int}, (∀ x ∈ s, 1 ≤ x) → 0 < pw s k
  | [], k, _ => by cases k <;> simp [pw]
  | _ :: _, [], _ => by simp [pw]
  | t :: s, x :: k, h => by
    have ih := pw_ne (s := s) (k := k) fun x hx => h x (List.mem_cons_of_mem _ hx)
    have ht := h t List.mem_cons_self
    exact Int.mul_pos (Int.pow_pos (by omega)) ih
def tot (s g : List Int) (m : List Row) : Int := m.foldl (fun t r => t + r.2 * pw s (psub g r.1)) 0
theorem tot_from {s g : List Int} : ∀ {m : List Row} {t : Int}, m.foldl (fun t r => t + r.2 * pw s (psub g r.1)) t = t + tot s g m
  | [], t => by simp [tot]
  | r :: m, t => by
    have e : tot s g (r :: m) = 0 + r.2 * pw s (psub g r.1) + tot s g m := by
      show m.foldl _ (0 + r.2 * pw s (psub g r.1)) = _
      rw [tot_from]
    rw [List.foldl_cons, tot_from, e]; omega
theorem tot_cons {s g : List Int} {m : List Row} {r : Row} : tot s g (r :: m) = r.2 * pw s (psub g r.1) + tot s g m := by
  show m.foldl _ (0 + r.2 * pw s (psub g r.1)) = _
  rw [tot_from]; omega
theorem cast_ne {x : Int} (h : 0 < x) : (x : Rat) ≠ 0 := by
  have : x ≠ 0 := by omega
  simpa using this
theorem tot_val {s g : List Int} (hs : ∀ x ∈ s, 1 ≤ x) : ∀ {m : List Row}, (∀ r ∈ m, Below g r.1) → ((tot s g m : Int) : Rat) / (pw s g : Rat) = val s m
  | [], _ => by simp [tot, val, sumR, Rat.div_def]
  | r :: m, h => by
    have ih := tot_val hs (m := m) fun x hx => h x (List.mem_cons_of_mem _ hx)
    have hb := (h r List.mem_cons_self).pw (s := s)
    have h1 := cast_ne (pw_ne (k := psub g r.1) hs)
    have h2 := cast_ne (pw_ne (k := r.1) hs)
    have h3 := cast_ne (pw_ne (k := g) hs)
    unfold val at ih ⊢
    rw [tot_cons, sumR, ← ih]
    unfold mon
    rw [Rat.intCast_add, Rat.intCast_mul]
    have e : ((pw s g : Int) : Rat) = (pw s (psub g r.1) : Rat) * (pw s r.1 : Rat) := by rw [hb, Rat.intCast_mul]
    generalize ((pw s g : Int) : Rat) = G at *
    generalize ((pw s (psub g r.1) : Int) : Rat) = A at *
    generalize ((pw s r.1 : Int) : Rat) = B at *
    subst e
    grind
theorem le_max {x : Int} : ∀ {ns : List Int} {n : Int}, (x ∈ ns ∨ x ≤ n) → x ≤ ns.foldl max n
  | [], n, h => by rcases h with h | h; · simp at h
                   · exact h
  | a :: ns, n, h => by
    rw [List.foldl_cons]
    refine le_max ?_
    rcases h with h | h
    · rcases List.mem_cons.mp h with rfl | h
      · exact .inr (Int.le_max_right ..)
      · exact .inl h
    · exact .inr (Int.le_trans h (Int.le_max_left ..))
theorem max_le {x : Int} : ∀ {ns : List Int} {n : Int}, (∀ y ∈ ns, y ≤ x) → n ≤ x → ns.foldl max n ≤ x
  | [], n, _, h => h
  | a :: ns, n, h1, h => by
    rw [List.foldl_cons]
    exact max_le (fun y hy => h1 y (List.mem_cons_of_mem _ hy)) (Int.max_le.mpr ⟨h, h1 a List.mem_cons_self⟩)
theorem great_len {n : Nat} {m : List Row} : (great n m).length = n := by unfold great; simp
theorem great_get {n i : Nat} {m : List Row} (h : i < n) : (great n m).getD i 0 = (m.map fun r => r.1.getD i 0).foldl max 0 := by
  unfold great
  simp [List.getD, h]
theorem getD_mem {k : List Int} {i : Nat} (h : i < k.length) : k.getD i 0 ∈ k := by
  rw [List.getD, List.getElem?_eq_getElem h]; exact List.getElem_mem h
theorem great_le {n : Nat} {m : List Row} (h : ∀ r ∈ m, r.1.length = n ∧ ∀ p ∈ r.1, 0 ≤ p ∧ p ≤ 40) : ∀ i, i < n → 0 ≤ (great n m).getD i 0 ∧ (great n m).getD i 0 ≤ 40 := fun i hi => by
  rw [great_get hi]
  refine ⟨le_max (.inr (Int.le_refl _)), max_le (fun y hy => ?_) (by decide)⟩
  obtain ⟨r, hr, rfl⟩ := List.mem_map.mp hy
  obtain ⟨h1, h2⟩ := h r hr
  exact (h2 _ (getD_mem (by omega))).2
theorem great_below {n : Nat} {m : List Row} (h : ∀ r ∈ m, r.1.length = n ∧ ∀ p ∈ r.1, 0 ≤ p ∧ p ≤ 40) : ∀ r ∈ m, Below (great n m) r.1 := fun r hr => by
  obtain ⟨h1, h2⟩ := h r hr
  refine ⟨by rw [great_len, h1], fun i hi => ⟨(h2 _ (getD_mem hi)).1, ?_, (great_le h i (by omega)).2⟩⟩
  rw [great_get (by omega)]
  exact le_max (.inl (List.mem_map.mpr ⟨r, hr, rfl⟩))
theorem mem_getD {k : List Int} {x : Int} (h : x ∈ k) : ∃ i, i < k.length ∧ k.getD i 0 = x := by
  obtain ⟨i, hi, rfl⟩ := List.mem_iff_getElem.mp h
  exact ⟨i, hi, by simp [List.getD, List.getElem?_eq_getElem hi]⟩
theorem pw_small : ∀ {s k : List Int}, (∀ x ∈ s, small 101 x) → (∀ p ∈ k, 0 ≤ p ∧ p ≤ 40) → small (4042 * s.length + 1) (pw s k)
  | [], k, _, _ => by cases k <;> simp [pw, small]
  | _ :: s, [], _, _ => by
    have : small 1 1 := by unfold small; decide
    exact this.mono (by omega)
  | t :: s, x :: k, h, h2 => by
    have ih := pw_small (s := s) (k := k) (fun y hy => h y (List.mem_cons_of_mem _ hy)) fun y hy => h2 y (List.mem_cons_of_mem _ hy)
    have ht := (h t List.mem_cons_self).pow x.toNat
    obtain ⟨hx0, hx⟩ := h2 x List.mem_cons_self
    exact (ht.mul ih).mono (by rw [List.length_cons]; omega)
theorem pw_small3 {s k : List Int} (hl : s.length ≤ 3) (h : ∀ x ∈ s, small 101 x) (h2 : ∀ p ∈ k, 0 ≤ p ∧ p ≤ 40) : small 12127 (pw s k) := (pw_small h h2).mono (by omega)
/-! ### the law's own sums -/
theorem put_keys {as : List Row} {k : List Int} {v : Int} {P : List Int → Prop} (h : ∀ r ∈ as, P r.1) (hk : P k) : ∀ r ∈ putA as k v, P r.1 := by
  unfold putA
  intro r hr
  split at hr
  · obtain ⟨x, hx, rfl⟩ := List.mem_map.mp hr
    split <;> exact h x hx
  · rcases List.mem_append.mp hr with hr | hr
    · exact h r hr
    · rw [List.mem_singleton.mp hr]; exact hk
theorem steps_keys {P : List Int → Prop} : ∀ {rows as : List Row}, (∀ r ∈ as, P r.1) → (∀ r ∈ rows, P r.1) → ∀ r ∈ rows.foldl step as, P r.1
  | [], as, h, _ => h
  | r :: rows, as, h, h2 => by
    rw [List.foldl_cons]
    exact steps_keys (put_keys h (h2 r List.mem_cons_self)) fun x hx => h2 x (List.mem_cons_of_mem _ hx)
theorem asm_P {P : List Int → Prop} {rows : List Row} (h : ∀ r ∈ rows, P r.1) : ∀ r ∈ asm rows, P r.1 := steps_keys (by simp) h
theorem canon_P {P : List Int → Prop} {rows : List Row} (h : ∀ r ∈ rows, P r.1) : ∀ r ∈ canon rows, P r.1 := fun r hr => by
  have := (List.mergeSort_perm _ _).mem_iff.mp hr
  exact asm_P h r (List.mem_filter.mp this).1
theorem keys_enc {as : List Row} : (encA as).map (fun x => keyD x.1) = (as.map (·.1)).map kD := by
  unfold encA
  rw [List.map_map, List.map_map]
  refine List.map_congr_left fun r _ => ?_
  simp only [Function.comp, keyD_nk]
theorem keys_imm : ∀ m : List (List Int), D.immL (m.map kD) = true
  | [] => by simp [D.immL]
  | a :: m => by simp [D.immL, kD_imm, keys_imm m]
theorem sortOk_keys {m : List (List Int)} (h : m.length ≤ 10000) (h2 : ∀ k ∈ m, k ≠ []) : sortOk (m.map kD) := by
  refine ⟨keys_imm m, ?_, .inl ?_, ?_, ?_⟩
  · intro d hd d' hd'
    obtain ⟨x, hx, rfl⟩ := List.mem_map.mp hd
    obtain ⟨r, _, rfl⟩ := List.mem_map.mp hx
    obtain ⟨x, hx, rfl⟩ := List.mem_map.mp hd'
    obtain ⟨t, _, rfl⟩ := List.mem_map.mp hx
    rw [kD_pd, kD_pd]
    exact alikeK _ _
  · intro d hd
    obtain ⟨x, hx, rfl⟩ := List.mem_map.mp hd
    obtain ⟨r, hr, rfl⟩ := List.mem_map.mp hx
    cases r with
    | nil => exact absurd rfl (h2 _ hr)
    | cons a r => exact ⟨_, _, kD_pd (a :: r)⟩
  · rw [List.length_map]
    exact Nat.le_trans h (by decide)
  · intro d hd
    obtain ⟨r, _, rfl⟩ := List.mem_map.mp hd
    rw [kD_pd]
    simp [PyData.depth, depths_int]
theorem sortD_keys {m : List (List Int)} : sortD (m.map kD) = (m.mergeSort leK).map kD := (PySem.W.sort_maps kD fun _ _ _ _ => rfl).symm
theorem fm_step {α β : Type} {f : α → Option β} {m : List α} {k : Nat} {r : α} (h : m[k]? = some r) : (m.take (k + 1)).filterMap f = (m.take k).filterMap f ++ (f r).toList := by
  rw [List.take_add_one, h, List.filterMap_append]
  cases e : f r <;> simp [e]
def putF (m : List Row) (k : List Int) : Option Row := if (atA (asm m) k).getD 0 ≠ 0 then some (k, (atA (asm m) k).getD 0) else none
theorem put_F (m : List Row) : (((asm m).map (·.1)).mergeSort leK).filterMap (putF m) = canon m := canon_put m
theorem key_at {as : List Row} {k : List Int} (h : k ∈ as.map (·.1)) : ∃ v, atA as k = some v := by
  obtain ⟨r, hr, rfl⟩ := List.mem_map.mp h
  refine Option.isSome_iff_exists.mp ?_
  unfold atA
  rw [Option.isSome_map, List.find?_isSome]
  exact ⟨r, hr, by simp⟩
theorem asm_len {m : List Row} (h : m.length ≤ 10000) : (asm m).length ≤ 10000 := by
  have := steps_len (rows := m) (as := [])
  simpa [asm] using Nat.le_trans this (by simpa using h)
/-- a mean as the law draws it -/
structure Drawn (n b : Nat) (m : List Row) : Prop where
  canon : Canon m
  len : m.length ≤ 6
  row : ∀ r ∈ m, r.1.length = n ∧ (∀ p ∈ r.1, 0 ≤ p ∧ p ≤ b) ∧ small 30 r.2
structure DrawnA (n b k : Nat) (as : List Row) : Prop where
  keys : (as.map (·.1)).Nodup
  len : as.length ≤ k
  row : ∀ r ∈ as, r.1.length = n ∧ (∀ p ∈ r.1, 0 ≤ p ∧ p ≤ (b : Int)) ∧ r.2 ≠ 0 ∧ small 30 r.2
theorem DrawnA.put {n b k : Nat} {as : List Row} (h : DrawnA n b k as) {l : List Int} {v : Int} (h1 : l.length = n) (h2 : ∀ p ∈ l, 0 ≤ p ∧ p ≤ (b : Int)) (h3 : v ≠ 0) (h4 : small 30 v) : DrawnA n b (k + 1) (putA as l v) where
  keys := keys_put h.keys
  len := Nat.le_trans put_len (Nat.succ_le_succ h.len)
  row := fun r hr => by
    unfold putA at hr
    split at hr
    · obtain ⟨x, hx, rfl⟩ := List.mem_map.mp hr
      obtain ⟨a, b, c⟩ := h.row x hx
      split
      · exact ⟨a, b, h3, h4⟩
      · exact ⟨a, b, c⟩
    · rcases List.mem_append.mp hr with hr | hr
      · exact h.row r hr
      · rw [List.mem_singleton.mp hr]; exact ⟨h1, h2, h3, h4⟩
theorem DrawnA.sort {n b k : Nat} {as : List Row} (h : DrawnA n b k as) (hk : k ≤ 6) : Drawn n b (as.mergeSort leR) where
  canon := { keys := ((List.mergeSort_perm _ _).map _).nodup_iff.mpr h.keys, nz := fun r hr => (h.row r ((List.mergeSort_perm _ _).mem_iff.mp hr)).2.2.1, sorted := List.pairwise_mergeSort totR.trans (fun a b => by rw [Bool.or_eq_true]; exact totR.total a b) _ }
  len := by rw [List.length_mergeSort]; exact Nat.le_trans h.len hk
  row := fun r hr => let ⟨a, b, _, c⟩ := h.row r ((List.mergeSort_perm _ _).mem_iff.mp hr); ⟨a, b, c⟩
theorem padd_len {a b : List Int} {n : Nat} (h1 : a.length = n) (h2 : b.length = n) : (padd a b).length = n := by
  rw [padd_zip, List.length_map, List.length_zip]; omega
theorem mem_prod {a b : List Row} {r : Row} : r ∈ prod a b ↔ ∃ x ∈ a, ∃ y ∈ b, r = (padd x.1 y.1, x.2 * y.2) := by
  unfold prod
  rw [List.mem_flatMap]
  constructor
  · rintro ⟨x, hx, h⟩
    obtain ⟨y, hy, rfl⟩ := List.mem_map.mp h
    exact ⟨x, hx, y, hy, rfl⟩
  · rintro ⟨x, hx, y, hy, rfl⟩
    exact ⟨x, hx, List.mem_map.mpr ⟨y, hy, rfl⟩⟩
theorem prod_key {a b : List Row} {n : Nat} (ha : ∀ r ∈ a, r.1.length = n) (hb : ∀ r ∈ b, r.1.length = n) : ∀ r ∈ prod a b, r.1.length = n := fun r hr => by
  obtain ⟨x, hx, y, hy, rfl⟩ := mem_prod.mp hr
  exact padd_len (ha x hx) (hb y hy)
theorem enum_get {f : Int → D} : ∀ {s : List Int} {j k : Nat} {d : D}, (enumD j (s.map f))[k]? = some d → ∃ x, s[k]? = some x ∧ d = .tup [.int ((j + k : Nat) : Int), f x]
  | [], j, k, d, h => by simp [enumD] at h
  | a :: s, j, 0, d, h => by
    rw [List.map_cons, enumD] at h
    simp at h
    exact ⟨a, rfl, h.symm⟩
  | a :: s, j, k + 1, d, h => by
    rw [List.map_cons, enumD, List.getElem?_cons_succ] at h
    obtain ⟨x, h1, h2⟩ := enum_get h
    exact ⟨x, by simpa using h1, by rw [h2, show j + 1 + k = j + (k + 1) by omega]⟩
theorem enum_len {f : Int → D} : ∀ {s : List Int} {j : Nat}, (enumD j (s.map f)).length = s.length
  | [], j => rfl
  | a :: s, j => by rw [List.map_cons, enumD, List.length_cons, enum_len, List.length_cons]
theorem zip3_map {α β γ : Type} {f : α → D} {g : β → D} {h : γ → D} : ∀ {a : List α} {b : List β} {c : List γ}, zip3D (a.map f) (b.map g) (c.map h) = (a.zip (b.zip c)).map fun p => D.tup [f p.1, g p.2.1, h p.2.2]
  | [], [], _ => by simp [zip3D]
  | [], _ :: _, _ => by simp [zip3D]
  | _ :: _, [], _ => by simp [zip3D]
  | _ :: _, _ :: _, [] => by simp [zip3D]
  | x :: a, y :: b, z :: c => by rw [List.map_cons, List.map_cons, List.map_cons, zip3D, zip3_map]; rfl
theorem pw_zip3 : ∀ {s g k : List Int} {x : Int}, (s.zip (g.zip k)).foldl (fun x p => x * p.1 ^ (p.2.1 - p.2.2).toNat) x = x * pw s (psub g k)
  | [], g, k, x => by simp [pw]
  | _ :: _, [], k, x => by simp [pw, psub]
  | _ :: _, _ :: _, [], x => by simp [pw, psub]
  | t :: s, y :: g, z :: k, x => by
    show (s.zip (g.zip k)).foldl _ (x * t ^ (y - z).toNat) = x * (t ^ (y - z).toNat * pw s (psub g k))
    rw [pw_zip3, Int.mul_assoc]
theorem maxL_zero {col : List Int} (h : ∀ x ∈ col, 0 ≤ x) {n : Int} {ns : List Int} (e : n :: ns = col ++ [0]) : maxL n ns = col.foldl max 0 := by
  refine Int.le_antisymm ?_ ?_
  · have := maxL_mem (n := n) (ns := ns)
    rw [e] at this
    rcases List.mem_append.mp this with h | h
    · exact le_max (.inl h)
    · rw [List.mem_singleton.mp h]; exact le_max (.inr (Int.le_refl _))
  · refine max_le (fun y hy => maxL_le y ?_) (maxL_le 0 ?_)
    · rw [e]; exact List.mem_append_left _ hy
    · rw [e]; simp
theorem snoc_cons (l : List Int) (x : Int) : ∃ n ns, l ++ [x] = n :: ns := by cases l <;> simp
/-! ### lowest terms -/
structure XOk (n : Nat) (x : Int × Int) : Prop where
  pos : 0 < x.2
  gcd : Int.gcd x.1 x.2 = 1
  s1 : small n x.1
  s2 : small n x.2
theorem fdiv_small {g k : Int} {n : Nat} (hg : g ≠ 0) (h : small n (g * k)) : small n k := by
  unfold small at *
  rw [Int.natAbs_mul] at h
  have : 1 ≤ g.natAbs := by omega
  exact Nat.lt_of_le_of_lt (Nat.le_mul_of_pos_left _ this) h
theorem fr_ok {p q : Int} {n : Nat} (hq : q ≠ 0) (h1 : small n p) (h2 : small n q) : XOk n (fr p q) := by
  have e := fr_frac (p := p) hq
  have hg := frG_ne (p := p) hq
  have d1 : frG p q ∣ p := by
    unfold frG; split
    · exact Int.gcd_dvd_left ..
    · exact Int.neg_dvd.mpr (Int.gcd_dvd_left ..)
  have d2 : frG p q ∣ q := by
    unfold frG; split
    · exact Int.gcd_dvd_right ..
    · exact Int.neg_dvd.mpr (Int.gcd_dvd_right ..)
  obtain ⟨a, ha⟩ := d1
  obtain ⟨b, hb⟩ := d2
  have e1 : (fr p q).1 = a := by
    show p.fdiv (frG p q) = a
    generalize frG p q = g at *
    rw [ha]; exact fdiv_mul hg
  have e2 : (fr p q).2 = b := by
    show q.fdiv (frG p q) = b
    generalize frG p q = g at *
    rw [hb]; exact fdiv_mul hg
  refine ⟨by rw [e]; exact frac_pos _, by rw [e]; exact Rat.reduced _, ?_, ?_⟩
  · rw [e1]; rw [ha] at h1; exact fdiv_small hg h1
  · rw [e2]; rw [hb] at h2; exact fdiv_small hg h2
theorem fr_six {x : Int × Int} {n : Nat} (h : XOk n x) : fr (6 * x.1) (-6 * x.2) = (0 - x.1, x.2) := by
  have e := fr_scale (g := -6) (a := 0 - x.1) (b := x.2) (by decide) h.pos (by rw [Int.zero_sub, Int.neg_gcd]; exact h.gcd)
  rw [← e]
  congr 1
  omega
theorem sm8 {i : Int} (h : small 300 i) : i.natAbs < 2 ^ 8000 := Nat.lt_of_lt_of_le h (Nat.pow_le_pow_right (by decide) (by decide))
theorem sm_of {i : Int} (h1 : -(10 ^ 40) ≤ i) (h2 : i ≤ 10 ^ 40) : small 140 i := by
  unfold small
  have e : (2 : Nat) ^ 140 = 1393796574908163946345982392040522594123776 := by decide +kernel
  have e1 : (10 : Int) ^ 40 = 10000000000000000000000000000000000000000 := by decide +kernel
  rw [e1] at h1 h2
  rw [e]
  omega
theorem far_of {far : D} {z : Int} (hz : z = 10 ^ 30) (hfar : far ∈ [D.int 9, D.int 100, D.int z]) : ∃ f : Int, far = .int f ∧ 9 ≤ f ∧ f ≤ 10 ^ 30 := by
  simp only [List.mem_cons, List.not_mem_nil, or_false] at hfar
  rcases hfar with h | h | h
  · exact ⟨_, h, by decide +kernel, by decide +kernel⟩
  · exact ⟨_, h, by decide +kernel, by decide +kernel⟩
  · exact ⟨_, h, by rw [hz]; decide +kernel, by rw [hz]; decide +kernel⟩
theorem sgn_of {d : D} (h : d ∈ [D.int 1, D.int (-1)]) : ∃ f : Int, d = .int f ∧ (f = 1 ∨ f = -1) := by
  simp only [List.mem_cons, List.not_mem_nil, or_false] at h
  rcases h with h | h
  · exact ⟨_, h, .inl rfl⟩
  · exact ⟨_, h, .inr rfl⟩
theorem ten30 : (10 : Int) ^ 30 = 1000000000000000000000000000000 := by decide +kernel
end K49
end
section
set_option maxRecDepth 100000
set_option exponentiation.threshold 20000
/-! K49more: values of sums and products; fractions of sums and products. -/
namespace K49
open PySem PySem.Spec PyProof.Rows L2 DL

theorem sumR_append {f : List Int → Rat} : ∀ {a b : List Row}, sumR f (a ++ b) = sumR f a + sumR f b
  | [], b => by rw [List.nil_append, sumR, Rat.zero_add]
  | r :: a, b => by rw [List.cons_append, sumR, sumR, sumR_append, Rat.add_assoc]
theorem sumR_perm {f : List Int → Rat} {a b : List Row} (h : a.Perm b) : sumR f a = sumR f b := by
  induction h with
  | nil => rfl
  | cons x _ ih => simp only [sumR, ih]
  | swap x y l => simp only [sumR]; grind
  | trans _ _ h1 h2 => exact h1.trans h2
theorem map_not {k : List Int} {v : Int} : ∀ {as : List Row}, k ∉ as.map (·.1) → (as.map fun r => if r.1 = k then (r.1, v) else r) = as
  | [], _ => rfl
  | a :: as, h => by
    rw [List.map_cons, List.mem_cons, not_or] at h
    rw [List.map_cons, if_neg (Ne.symm h.1), map_not h.2]
theorem sumR_map {f : List Int → Rat} {k : List Int} {v x : Int} : ∀ {as : List Row}, (as.map (·.1)).Nodup → atA as k = some x → sumR f (as.map fun r => if r.1 = k then (r.1, v) else r) = sumR f as + ((v : Rat) - (x : Rat)) * f k
  | [], _, h => by simp [atA] at h
  | a :: as, hn, h => by
    rw [List.map_cons, List.nodup_cons] at hn
    rw [atA_cons] at h
    rw [List.map_cons, sumR, sumR]
    by_cases e : a.1 = k
    · rw [if_pos e] at h
      rw [if_pos e]
      have ha : a.2 = x := by injection h
      rw [map_not (by rw [← e]; exact hn.1)]
      subst ha
      subst e
      dsimp only
      grind
    · rw [if_neg e] at h
      rw [if_neg e, sumR_map hn.2 h]
      grind
theorem sumR_step {f : List Int → Rat} {as : List Row} {r : Row} (hn : (as.map (·.1)).Nodup) : sumR f (step as r) = sumR f as + (r.2 : Rat) * f r.1 := by
  unfold step putA
  cases h : atA as r.1 with
  | none =>
    rw [if_neg (by simp), sumR_append, sumR, sumR, Rat.add_zero, Option.getD_none, Int.zero_add]
  | some x =>
    have e := sumR_map (f := f) (v := x + r.2) hn h
    have e2 : ((x + r.2 : Int) : Rat) = (x : Rat) + (r.2 : Rat) := Rat.intCast_add ..
    rw [e2] at e
    refine Eq.trans ?_ (e.trans ?_)
    · simp
    · grind
theorem sumR_steps {f : List Int → Rat} : ∀ {rows as : List Row}, (as.map (·.1)).Nodup → sumR f (rows.foldl step as) = sumR f as + sumR f rows
  | [], as, _ => by rw [List.foldl_nil, sumR, Rat.add_zero]
  | r :: rows, as, h => by
    have h2 : ((step as r).map (·.1)).Nodup := keys_put h
    rw [List.foldl_cons, sumR_steps h2, sumR_step h, sumR, Rat.add_assoc]
theorem sumR_filter {f : List Int → Rat} : ∀ {m : List Row}, sumR f (m.filter fun r => decide (r.2 ≠ 0)) = sumR f m
  | [] => rfl
  | r :: m => by
    rw [List.filter_cons]
    by_cases e : r.2 = 0
    · rw [if_neg (by simp [e]), sumR_filter, sumR, e]
      simp only [Rat.intCast_zero, Rat.zero_mul, Rat.zero_add]
    · rw [if_pos (by simp [e]), sumR, sumR_filter, sumR]
theorem sumR_canon {f : List Int → Rat} {m : List Row} : sumR f (canon m) = sumR f m := by
  unfold canon
  rw [sumR_perm (List.mergeSort_perm _ _), sumR_filter]
  have := sumR_steps (f := f) (rows := m) (as := []) .nil
  rw [sumR, Rat.zero_add] at this
  exact this
theorem val_canon {s : List Int} {m : List Row} : val s (canon m) = val s m := sumR_canon
theorem val_append {s : List Int} {a b : List Row} : val s (a ++ b) = val s a + val s b := sumR_append
theorem sumR_scale {f : List Int → Rat} {c : Int} : ∀ {m : List Row}, sumR f (scale c m) = (c : Rat) * sumR f m
  | [] => by show (0 : Rat) = (c : Rat) * 0; rw [Rat.mul_zero]
  | r :: m => by
    show ((c * r.2 : Int) : Rat) * f r.1 + sumR f (scale c m) = (c : Rat) * ((r.2 : Rat) * f r.1 + sumR f m)
    rw [sumR_scale, Rat.intCast_mul]
    grind
theorem val_scale {s : List Int} {c : Int} {m : List Row} : val s (scale c m) = (c : Rat) * val s m := sumR_scale
theorem pw_add : ∀ {s a b : List Int}, a.length = b.length → (∀ p ∈ a, 0 ≤ p) → (∀ p ∈ b, 0 ≤ p) → pw s (padd a b) = pw s a * pw s b
  | [], a, b, _, _, _ => by simp [pw]
  | _ :: _, [], [], _, _, _ => by simp [pw, padd]
  | _ :: _, [], _ :: _, h, _, _ => by simp at h
  | _ :: _, _ :: _, [], h, _, _ => by simp at h
  | t :: s, x :: a, y :: b, h, h1, h2 => by
    have ih := pw_add (s := s) (a := a) (b := b) (by simpa using h) (fun p hp => h1 p (List.mem_cons_of_mem _ hp)) fun p hp => h2 p (List.mem_cons_of_mem _ hp)
    have hx := h1 x List.mem_cons_self
    have hy := h2 y List.mem_cons_self
    show t ^ (x + y).toNat * pw s (padd a b) = t ^ x.toNat * pw s a * (t ^ y.toNat * pw s b)
    rw [ih, show (x + y).toNat = x.toNat + y.toNat by omega, Int.pow_add]
    grind
theorem mon_add {s a b : List Int} (hs : ∀ x ∈ s, 1 ≤ x) (h : a.length = b.length) (h1 : ∀ p ∈ a, 0 ≤ p) (h2 : ∀ p ∈ b, 0 ≤ p) : mon s (padd a b) = mon s a * mon s b := by
  have n1 := cast_ne (pw_ne (k := a) hs)
  have n2 := cast_ne (pw_ne (k := b) hs)
  unfold mon
  rw [pw_add h h1 h2, Rat.intCast_mul]
  grind
theorem sumR_row {f : List Int → Rat} {r : Row} {n : Nat} (hf : ∀ t : List Int, t.length = n → (∀ p ∈ t, 0 ≤ p) → f (padd r.1 t) = f r.1 * f t) : ∀ {b : List Row}, (∀ t ∈ b, t.1.length = n ∧ ∀ p ∈ t.1, 0 ≤ p) → sumR f (b.map fun t => (padd r.1 t.1, r.2 * t.2)) = (r.2 : Rat) * f r.1 * sumR f b
  | [], _ => by show (0 : Rat) = _ * 0; rw [Rat.mul_zero]
  | t :: b, h => by
    obtain ⟨h1, h2⟩ := h t List.mem_cons_self
    show ((r.2 * t.2 : Int) : Rat) * f (padd r.1 t.1) + sumR f (b.map _) = (r.2 : Rat) * f r.1 * ((t.2 : Rat) * f t.1 + sumR f b)
    rw [sumR_row hf fun x hx => h x (List.mem_cons_of_mem _ hx), hf _ h1 h2, Rat.intCast_mul]
    grind
theorem val_prod {s : List Int} {n : Nat} (hs : ∀ x ∈ s, 1 ≤ x) : ∀ {a b : List Row}, (∀ t ∈ a, t.1.length = n ∧ ∀ p ∈ t.1, 0 ≤ p) → (∀ t ∈ b, t.1.length = n ∧ ∀ p ∈ t.1, 0 ≤ p) → val s (prod a b) = val s a * val s b
  | [], b, _, _ => by show (0 : Rat) = 0 * _; rw [Rat.zero_mul]
  | r :: a, b, ha, hb => by
    obtain ⟨h1, h2⟩ := ha r List.mem_cons_self
    rw [prod_cons, val_append, val_prod hs (fun x hx => ha x (List.mem_cons_of_mem _ hx)) hb]
    have := sumR_row (f := mon s) (r := r) (n := n) (fun t e h => mon_add hs (by rw [h1, e]) h2 h) hb
    unfold val at this ⊢
    rw [this, sumR]
    grind
theorem plus_frac {x y : Rat} : fr ((frac x).1 * (frac y).2 + (frac y).1 * (frac x).2) ((frac x).2 * (frac y).2) = frac (x + y) := by
  have hx := frac_pos x
  have hy := frac_pos y
  rw [fr_frac (Int.ne_of_gt (Int.mul_pos hx hy))]
  congr 1
  have h1 := cast_ne hx
  have h2 := cast_ne hy
  have e1 := frac_div x
  have e2 := frac_div y
  rw [Rat.intCast_add, Rat.intCast_mul, Rat.intCast_mul, Rat.intCast_mul]
  generalize (((frac x).1 : Int) : Rat) = p at *
  generalize (((frac x).2 : Int) : Rat) = q at *
  generalize (((frac y).1 : Int) : Rat) = r at *
  generalize (((frac y).2 : Int) : Rat) = t at *
  subst e1
  subst e2
  grind
theorem minus_frac {x y : Rat} : fr ((frac x).1 * (frac y).2 + (0 - (frac y).1) * (frac x).2) ((frac x).2 * (frac y).2) = frac (x - y) := by
  have hx := frac_pos x
  have hy := frac_pos y
  rw [fr_frac (Int.ne_of_gt (Int.mul_pos hx hy))]
  congr 1
  have h1 := cast_ne hx
  have h2 := cast_ne hy
  have e1 := frac_div x
  have e2 := frac_div y
  rw [Int.zero_sub, Rat.intCast_add, Rat.intCast_mul, Rat.intCast_mul, Rat.intCast_mul, Rat.intCast_neg]
  generalize (((frac x).1 : Int) : Rat) = p at *
  generalize (((frac x).2 : Int) : Rat) = q at *
  generalize (((frac y).1 : Int) : Rat) = r at *
  generalize (((frac y).2 : Int) : Rat) = t at *
  subst e1
  subst e2
  grind
theorem times_frac {x y : Rat} : fr ((frac x).1 * (frac y).1) ((frac x).2 * (frac y).2) = frac (x * y) := by
  have hx := frac_pos x
  have hy := frac_pos y
  rw [fr_frac (Int.ne_of_gt (Int.mul_pos hx hy))]
  congr 1
  have h1 := cast_ne hx
  have h2 := cast_ne hy
  have e1 := frac_div x
  have e2 := frac_div y
  rw [Rat.intCast_mul, Rat.intCast_mul]
  generalize (((frac x).1 : Int) : Rat) = p at *
  generalize (((frac x).2 : Int) : Rat) = q at *
  generalize (((frac y).1 : Int) : Rat) = r at *
  generalize (((frac y).2 : Int) : Rat) = t at *
  subst e1
  subst e2
  grind
theorem int_frac {c : Int} {x : Rat} : fr (c * (frac x).1) (1 * (frac x).2) = frac ((c : Rat) * x) := by
  have hx := frac_pos x
  rw [Int.one_mul, fr_frac (Int.ne_of_gt hx)]
  congr 1
  have h1 := cast_ne hx
  have e1 := frac_div x
  rw [Rat.intCast_mul]
  generalize (((frac x).1 : Int) : Rat) = p at *
  generalize (((frac x).2 : Int) : Rat) = q at *
  subst e1
  grind
theorem frac_zero : frac 0 = (0, 1) := rfl
/-! ### how great the numbers are -/
theorem pw_smallB {B : Nat} : ∀ {s k : List Int}, (∀ x ∈ s, small 101 x) → (∀ p ∈ k, 0 ≤ p ∧ p ≤ B) → small ((101 * B + 2) * s.length + 1) (pw s k)
  | [], k, _, _ => by cases k <;> simp [pw, small]
  | _ :: s, [], _, _ => by
    have : small 1 1 := by unfold small; decide
    exact this.mono (by omega)
  | t :: s, x :: k, h, h2 => by
    have ih := pw_smallB (B := B) (s := s) (k := k) (fun y hy => h y (List.mem_cons_of_mem _ hy)) fun y hy => h2 y (List.mem_cons_of_mem _ hy)
    have ht := (h t List.mem_cons_self).pow x.toNat
    obtain ⟨hx0, hx⟩ := h2 x List.mem_cons_self
    have hxB : x.toNat ≤ B := by omega
    have : 101 * x.toNat ≤ 101 * B := Nat.mul_le_mul_left _ hxB
    exact (ht.mul ih).mono (by rw [List.length_cons, Nat.mul_succ]; omega)
theorem coef_small {k : List Int} {n : Nat} : ∀ {m : List Row}, (∀ r ∈ m, small n r.2) → (coef m k).natAbs ≤ m.length * 2 ^ n
  | [], _ => by simp [coef]
  | r :: m, h => by
    have ih := coef_small (k := k) fun x hx => h x (List.mem_cons_of_mem _ hx)
    have h1 := h r List.mem_cons_self
    unfold small at h1
    rw [coef, List.length_cons, Nat.succ_mul]
    have : ((if r.1 = k then r.2 else 0) + coef m k).natAbs ≤ (if r.1 = k then r.2 else 0).natAbs + (coef m k).natAbs := Int.natAbs_add_le _ _
    have h2 : (if r.1 = k then r.2 else 0).natAbs ≤ 2 ^ n := by
      split
      · exact Nat.le_of_lt h1
      · exact Nat.zero_le _
    omega
theorem canon_small {m : List Row} {n j : Nat} (h : ∀ r ∈ m, small n r.2) (hl : m.length < 2 ^ j) : ∀ r ∈ canon m, small (n + j) r.2 := fun r hr => by
  obtain ⟨_, e⟩ := mem_canon.mp hr
  have := coef_small (k := r.1) h
  rw [← e] at this
  unfold small
  rw [Nat.pow_add, Nat.mul_comm]
  exact Nat.lt_of_le_of_lt this (Nat.mul_lt_mul_of_pos_right hl (Nat.pow_pos (by decide)))
end K49
end
section
set_option maxRecDepth 100000
set_option exponentiation.threshold 20000
/-! K49show: lengths of the texts of fractions and means; sums of fractions by name. -/
namespace K49
open PySem PySem.Spec PyProof.Rows L2 DL
def frD (x : Int × Int) : D := .tup [.int x.1, .int x.2]
def plus (x y : Int × Int) : Int × Int := fr (x.1 * y.2 + y.1 * x.2) (x.2 * y.2)
def less (x y : Int × Int) : Int × Int := fr (x.1 * y.2 - y.1 * x.2) (x.2 * y.2)
def times (x y : Int × Int) : Int × Int := fr (x.1 * y.1) (x.2 * y.2)
def by_ (x y : Int × Int) : Int × Int := fr (x.1 * y.2) (x.2 * y.1)
theorem less_plus {a b c d : Int} : less (a, b) (c, d) = plus (a, b) (0 - c, d) := by
  unfold less plus
  dsimp only
  rw [Int.sub_mul, Int.zero_mul, Int.zero_sub, Int.sub_eq_add_neg]
theorem pow_digits {n k : Nat} (h : n ≤ 3 * k) : 2 ^ n ≤ 10 ^ k := by
  have h1 : (2 : Nat) ^ n ≤ 2 ^ (3 * k) := Nat.pow_le_pow_right (by decide) h
  have h2 : (2 : Nat) ^ (3 * k) = 8 ^ k := by rw [Nat.pow_mul]
  have h3 : (8 : Nat) ^ k ≤ 10 ^ k := Nat.pow_le_pow_left (by decide) k
  omega
theorem shows_sm {n k : Nat} {i : Int} (h : small n i) (hk : n ≤ 3 * k) (h1 : k ≤ 4300) (h0 : 1 ≤ k) : Shows (k + 2) 0 (.int i) := shows_int k (Nat.lt_of_lt_of_le h (pow_digits hk)) h1 h0
theorem shows_fr {n k : Nat} {x : Int × Int} (h1 : small n x.1) (h2 : small n x.2) (hk : n ≤ 3 * k) (h3 : k ≤ 4300) (h0 : 1 ≤ k) : Shows (2 * (k + 4) + 3) 1 (frD x) :=
  shows_tup (ds := [.int x.1, .int x.2]) fun d hd => by
    simp only [List.mem_cons, List.not_mem_nil, or_false] at hd
    rcases hd with rfl | rfl
    · exact shows_sm h1 hk h3 h0
    · exact shows_sm h2 hk h3 h0
theorem shows_ok {n k : Nat} {x : Int × Int} (h : XOk n x) (hk : n ≤ 3 * k) (h3 : k ≤ 4300) (h0 : 1 ≤ k) : Shows (2 * (k + 4) + 3) 1 (frD x) := shows_fr h.s1 h.s2 hk h3 h0
theorem dec_self (x : Str) : decide (x = x) = true := decide_eq_true rfl
theorem shows_all {n j : Nat} {ds : List D} (h : ∀ d ∈ ds, Shows n j d) (h1 : ds.length * (n + 2) + 3 ≤ sizeLine) (h2 : j + 1 ≤ 60) : showOk (.lst ds) := (shows_lst h).ok h1 h2
theorem all_nil {n j : Nat} : ∀ d ∈ ([] : List D), Shows n j d := by simp
theorem all_cons {n j : Nat} {d : D} {ds : List D} (h : Shows n j d) (h2 : ∀ x ∈ ds, Shows n j x) : ∀ x ∈ d :: ds, Shows n j x := fun x hx => by
  rcases List.mem_cons.mp hx with rfl | hx
  · exact h
  · exact h2 x hx
theorem all_append {n j : Nat} {ds es : List D} (h : ∀ x ∈ ds, Shows n j x) (h2 : ∀ x ∈ es, Shows n j x) : ∀ x ∈ ds ++ es, Shows n j x := fun x hx => by
  rcases List.mem_append.mp hx with hx | hx
  · exact h x hx
  · exact h2 x hx
theorem sub_small {n : Nat} {i : Int} (h : small n i) : small n (0 - i) := by rw [Int.zero_sub]; exact h.neg
theorem XOk.plus {n m : Nat} {x y : Int × Int} (hx : XOk n x) (hy : XOk m y) : XOk (n + m + 1) (K49.plus x y) :=
  fr_ok (Int.ne_of_gt (Int.mul_pos hx.pos hy.pos)) ((hx.s1.mul hy.s2).add ((hy.s1.mul hx.s2).mono (by omega))) ((hx.s2.mul hy.s2).mono (by omega))
theorem XOk.times {n m : Nat} {x y : Int × Int} (hx : XOk n x) (hy : XOk m y) : XOk (n + m) (K49.times x y) :=
  fr_ok (Int.ne_of_gt (Int.mul_pos hx.pos hy.pos)) (hx.s1.mul hy.s1) (hx.s2.mul hy.s2)
theorem XOk.neg {n : Nat} {x : Int × Int} (hx : XOk n x) : XOk n (0 - x.1, x.2) := ⟨hx.pos, by show Int.gcd (0 - x.1) x.2 = 1; rw [Int.zero_sub, Int.neg_gcd]; exact hx.gcd, sub_small hx.s1, hx.s2⟩
theorem XOk.mono {n m : Nat} {x : Int × Int} (hx : XOk n x) (h : n ≤ m) : XOk m x := ⟨hx.pos, hx.gcd, hx.s1.mono h, hx.s2.mono h⟩
theorem XOk.by_ {n m : Nat} {x y : Int × Int} (hx : XOk n x) (hy : XOk m y) (h0 : y.1 ≠ 0) : XOk (n + m) (K49.by_ x y) :=
  fr_ok (Int.mul_ne_zero (Int.ne_of_gt hx.pos) h0) (hx.s1.mul hy.s2) (hx.s2.mul hy.s1)
end K49
end
section
set_option maxRecDepth 100000
set_option exponentiation.threshold 20000
/-! K49bd: bounds of means; their texts' lengths; the law's sums are alike. -/
namespace K49
open PySem PySem.Spec PyProof.Rows L2 DL
structure MOk (n : Nat) (m : List Row) : Prop where
  len : m.length ≤ 60
  row : ∀ r ∈ m, r.1.length = n ∧ (∀ p ∈ r.1, 0 ≤ p ∧ p ≤ 40) ∧ small 200 r.2
def SOk (s : List Int) : Prop := s.length ≤ 3 ∧ ∀ x ∈ s, 1 ≤ x ∧ small 101 x
structure Bd (n l b N : Nat) (m : List Row) : Prop where
  len : m.length ≤ l
  row : ∀ r ∈ m, r.1.length = n ∧ (∀ p ∈ r.1, 0 ≤ p ∧ p ≤ (b : Int)) ∧ small N r.2
section
variable {n l b N l' b' N' : Nat} {m m' : List Row}
theorem Bd.mono (h : Bd n l b N m) (h1 : l ≤ l') (h2 : b ≤ b') (h3 : N ≤ N') : Bd n l' b' N' m := ⟨Nat.le_trans h.len h1, fun r hr => by
  obtain ⟨a, c, d⟩ := h.row r hr
  exact ⟨a, fun p hp => ⟨(c p hp).1, by have := (c p hp).2; omega⟩, d.mono h3⟩⟩
theorem Drawn.bd (h : Drawn n b m) : Bd n 6 b 30 m := ⟨h.len, h.row⟩
theorem Bd.append (h : Bd n l b N m) (h' : Bd n l' b N m') : Bd n (l + l') b N (m ++ m') := ⟨by rw [List.length_append]; have := h.len; have := h'.len; omega, fun r hr => by
  rcases List.mem_append.mp hr with hr | hr
  · exact h.row r hr
  · exact h'.row r hr⟩
theorem Bd.canon (h : Bd n l b N m) (j : Nat) (hl : l < 2 ^ j) : Bd n l b (N + j) (canon m) := ⟨Nat.le_trans (canon_len m) h.len, fun r hr => by
  have h1 := canon_P (P := fun k => k.length = n ∧ ∀ p ∈ k, 0 ≤ p ∧ p ≤ (b : Int)) (fun r hr => ⟨(h.row r hr).1, (h.row r hr).2.1⟩) r hr
  exact ⟨h1.1, h1.2, canon_small (fun r hr => (h.row r hr).2.2) (Nat.lt_of_le_of_lt h.len hl) r hr⟩⟩
theorem Bd.scale (h : Bd n l b N m) {c : Int} {M : Nat} (hc : small M c) : Bd n l b (M + N) (scale c m) := ⟨by unfold K49.scale; rw [List.length_map]; exact h.len, fun r hr => by
  obtain ⟨x, hx, rfl⟩ := List.mem_map.mp hr
  obtain ⟨a, c', d⟩ := h.row x hx
  exact ⟨a, c', hc.mul d⟩⟩
theorem Bd.perm (h : Bd n l b N m) (p : m'.Perm m) : Bd n l b N m' := ⟨by rw [p.length_eq]; exact h.len, fun r hr => h.row r (p.mem_iff.mp hr)⟩
theorem Bd.zero (h : Bd n l b N m) : Bd n l b N (m.map fun r => (r.1, (0 : Int))) := ⟨by rw [List.length_map]; exact h.len, fun r hr => by
  obtain ⟨x, hx, rfl⟩ := List.mem_map.mp hr
  obtain ⟨a, c', d⟩ := h.row x hx
  exact ⟨a, c', by unfold small; exact Nat.pow_pos (by decide)⟩⟩
theorem mem_padd : ∀ {a b : List Int} {p : Int}, p ∈ padd a b → ∃ x ∈ a, ∃ y ∈ b, p = x + y
  | [], _, _, h => by simp [padd] at h
  | _ :: _, [], _, h => by simp [padd] at h
  | x :: a, y :: b, p, h => by
    rcases List.mem_cons.mp (show p ∈ (x + y) :: padd a b from h) with rfl | h
    · exact ⟨x, List.mem_cons_self, y, List.mem_cons_self, rfl⟩
    · obtain ⟨u, hu, v, hv, e⟩ := mem_padd h
      exact ⟨u, List.mem_cons_of_mem _ hu, v, List.mem_cons_of_mem _ hv, e⟩
theorem Bd.prod (h : Bd n l b N m) (h' : Bd n l' b' N' m') : Bd n (l * l') (b + b') (N + N') (prod m m') := ⟨by rw [prod_len]; exact Nat.mul_le_mul h.len h'.len, fun r hr => by
  obtain ⟨x, hx, y, hy, rfl⟩ := mem_prod.mp hr
  obtain ⟨a1, a2, a3⟩ := h.row x hx
  obtain ⟨b1, b2, b3⟩ := h'.row y hy
  refine ⟨padd_len a1 b1, fun p hp => ?_, a3.mul b3⟩
  obtain ⟨u, hu, v, hv, rfl⟩ := mem_padd hp
  have := a2 u hu
  have := b2 v hv
  omega⟩
theorem Bd.mok (h : Bd n l b N m) (h1 : l ≤ 60) (h2 : b ≤ 40) (h3 : N ≤ 200) : MOk n m := ⟨Nat.le_trans h.len h1, fun r hr => by
  obtain ⟨a, c, d⟩ := h.row r hr
  exact ⟨a, fun p hp => ⟨(c p hp).1, by have := (c p hp).2; omega⟩, d.mono h3⟩⟩
theorem Bd.shows (h : Bd n l b N m) (hn : n ≤ 3) (h1 : l ≤ 60) (h2 : b ≤ 40) (h3 : N ≤ 200) : Shows 20000 3 (mD m) := by
  have hr : ∀ d ∈ m.map rowD, Shows 200 2 d := fun d hd => by
    obtain ⟨r, hr, rfl⟩ := List.mem_map.mp hd
    obtain ⟨a, c, d⟩ := h.row r hr
    have hk : Shows 80 1 (kD r.1) := (shows_tup (n := 12) (j := 0) (ds := r.1.map D.int) fun x hx => by
      obtain ⟨p, hp, rfl⟩ := List.mem_map.mp hx
      have := c p hp
      exact shows_sm (n := 30) (k := 10) (by unfold small; have e : (2 : Nat) ^ 30 = 1073741824 := by decide +kernel
                                             rw [e]; omega) (by decide) (by decide) (by decide)).mono (by rw [List.length_map, a]; omega) (by decide)
    exact (shows_tup (n := 80) (j := 1) (ds := [kD r.1, .int r.2]) fun x hx => by
      simp only [List.mem_cons, List.not_mem_nil, or_false] at hx
      rcases hx with rfl | rfl
      · exact hk
      · exact (shows_sm (n := 200) (k := 70) (d.mono h3) (by decide) (by decide) (by decide)).mono (by decide) (by decide)).mono (by simp) (by decide)
  refine (shows_tup hr).mono ?_ (by decide)
  rw [List.length_map]
  have := h.len
  omega
theorem tot_smallB {s g : List Int} {P : Nat} : ∀ {m : List Row}, (∀ r ∈ m, small P (pw s (psub g r.1)) ∧ small N r.2) → (tot s g m).natAbs ≤ m.length * 2 ^ (N + P)
  | [], _ => by simp [tot]
  | r :: m, h => by
    have ih := tot_smallB (m := m) fun x hx => h x (List.mem_cons_of_mem _ hx)
    obtain ⟨h1, h2⟩ := h r List.mem_cons_self
    have h3 := h2.mul h1
    unfold small at h3
    rw [tot_cons, List.length_cons, Nat.succ_mul]
    have : (r.2 * pw s (psub g r.1) + tot s g m).natAbs ≤ (r.2 * pw s (psub g r.1)).natAbs + (tot s g m).natAbs := Int.natAbs_add_le _ _
    omega
theorem Bd.xok {s : List Int} (hs : SOk s) (h : Bd s.length l b N m) (hb : b ≤ 40) (hl : l < 2 ^ 6) : XOk (N + (303 * b + 7) + 6) (frac (val s m)) := by
  have hrow : ∀ r ∈ m, r.1.length = s.length ∧ ∀ p ∈ r.1, 0 ≤ p ∧ p ≤ 40 := fun r hr => ⟨(h.row r hr).1, fun p hp => ⟨((h.row r hr).2.1 p hp).1, by have := ((h.row r hr).2.1 p hp).2; omega⟩⟩
  have hbel := great_below hrow
  have hs1 : ∀ x ∈ s, 1 ≤ x := fun x hx => (hs.2 x hx).1
  have hs2 : ∀ x ∈ s, small 101 x := fun x hx => (hs.2 x hx).2
  have hg : ∀ p ∈ great s.length m, 0 ≤ p ∧ p ≤ (b : Int) := fun p hp => by
    obtain ⟨i, hi, rfl⟩ := mem_getD hp
    rw [great_len] at hi
    rw [great_get hi]
    refine ⟨le_max (.inr (Int.le_refl _)), max_le (fun y hy => ?_) (by omega)⟩
    obtain ⟨r, hr, rfl⟩ := List.mem_map.mp hy
    obtain ⟨e1, e2, _⟩ := h.row r hr
    exact (e2 _ (getD_mem (by omega))).2
  generalize hG : great s.length m = g at *
  have hpw := pw_ne (k := g) hs1
  have hP : (101 * b + 2) * s.length + 1 ≤ 303 * b + 7 := by
    have := Nat.mul_le_mul_left (101 * b + 2) hs.1
    omega
  have p1 : small (303 * b + 7) (pw s g) := (pw_smallB hs2 hg).mono hP
  have p2 : ∀ r ∈ m, small (303 * b + 7) (pw s (psub g r.1)) ∧ small N r.2 := fun r hr => by
    refine ⟨(pw_smallB hs2 fun p hp => ?_).mono hP, (h.row r hr).2.2⟩
    have h1 := hbel r hr
    obtain ⟨_, h2⟩ := h1.sub
    refine ⟨(h2 p hp).1, ?_⟩
    unfold psub at hp
    obtain ⟨⟨u, v⟩, hz, rfl⟩ := List.mem_map.mp hp
    have hu := hg u (List.of_mem_zip hz).1
    have hv := (h.row r hr).2.1 v (List.of_mem_zip hz).2
    dsimp only
    omega
  have hm := h.len
  have t1 : small (N + (303 * b + 7) + 6) (tot s g m) := by
    have := tot_smallB p2
    unfold small
    rw [Nat.pow_add 2 _ 6, Nat.mul_comm]
    exact Nat.lt_of_le_of_lt this (Nat.mul_lt_mul_of_pos_right (by omega) (Nat.pow_pos (by decide)))
  rw [← tot_val hs1 hbel, ← fr_frac (by omega)]
  exact fr_ok (by omega) t1 (p1.mono (by omega))
end
/-! ### the same sums -/
theorem coef_scale {c : Int} {k : List Int} : ∀ {m : List Row}, coef (scale c m) k = c * coef m k
  | [] => by simp [scale, coef]
  | r :: m => by
    show (if r.1 = k then c * r.2 else 0) + coef (scale c m) k = c * ((if r.1 = k then r.2 else 0) + coef m k)
    rw [coef_scale, Int.mul_add]
    split
    · rfl
    · rw [Int.mul_zero]
theorem minus_scale (m : List Row) : (m.map fun r => (r.1, 0 - r.2)) = scale (-1) m := by
  unfold scale
  refine List.map_congr_left fun r _ => ?_
  rw [show 0 - r.2 = -1 * r.2 by omega]
theorem canon_less {a b : List Row} : canon (a ++ canon (scale (-1) b)) = canon (a ++ scale (-1) b) := canon_same fun k => by
  rw [coef_append, coef_append, coef_canon]
theorem canon_self {a : List Row} : canon (a ++ canon (scale (-1) a)) = [] := canon_zero fun k => by
  rw [coef_append, coef_canon, coef_scale]; omega
theorem canon_perm {a b : List Row} (h : a.Perm b) : canon a = canon b := canon_same fun k => coef_perm h
theorem prod_nil (a : List Row) : prod a [] = [] := by
  unfold prod
  induction a with
  | nil => rfl
  | cons x a ih => rw [List.flatMap_cons, ih]; rfl
theorem canon_nil : canon [] = [] := canon_zero fun k => rfl
theorem perm_rows {α β : Type} {f : α → β} {zs ys : List β} (h : zs.Perm ys) : ∀ l : List α, ys = l.map f → ∃ l' : List α, zs = l'.map f ∧ l'.Perm l := by
  induction h with
  | nil => intro l e; exact ⟨[], rfl, by cases l with | nil => exact .nil | cons a l => simp at e⟩
  | cons x _ ih =>
    intro l e
    cases l with
    | nil => simp at e
    | cons a l =>
      rw [List.map_cons] at e
      injection e with e1 e2
      obtain ⟨l', h1, h2⟩ := ih l e2
      exact ⟨a :: l', by rw [h1, e1, List.map_cons], h2.cons a⟩
  | swap x y zs =>
    intro l e
    match l, e with
    | a :: b :: l, e =>
      rw [List.map_cons, List.map_cons] at e
      injection e with e1 e2
      injection e2 with e2 e3
      exact ⟨b :: a :: l, by rw [List.map_cons, List.map_cons, e1, e2, e3], .swap a b l⟩
  | trans _ _ h1 h2 =>
    intro l e
    obtain ⟨l1, e1, p1⟩ := h2 l e
    obtain ⟨l2, e2, p2⟩ := h1 l1 e1
    exact ⟨l2, e2, p2.trans p1⟩
theorem plus_fr {x y : Rat} : plus (frac x) (frac y) = frac (x + y) := plus_frac
theorem minus_fr {x y : Rat} : plus (frac x) (0 - (frac y).1, (frac y).2) = frac (x - y) := minus_frac
theorem times_fr {x y : Rat} : times (frac x) (frac y) = frac (x * y) := times_frac
theorem int_fr {c : Int} {x : Rat} : times (c, 1) (frac x) = frac ((c : Rat) * x) := int_frac
theorem val_less {s : List Int} {a b : List Row} : val s (canon (a ++ canon (scale (-1) b))) = val s a - val s b := by
  rw [val_canon, val_append, val_canon, val_scale]
  have : ((-1 : Int) : Rat) = -1 := rfl
  rw [this]
  grind
end K49
end
section
set_option maxRecDepth 100000
set_option exponentiation.threshold 20000
/-! K50math: mixed values; what is a mean, a fraction, an integer. -/
namespace K50
open PySem PySem.Spec PyProof.Rows L2 DL K49
mutual
def ib : D → Prop
  | .int i => small 200 i
  | .tup xs => ibs xs
  | .lst xs => ibs xs
  | .dK kvs => kvs = []
  | .dN _ => False
  | .non => True
  | .bl _ => True
  | .str _ => True
def ibs : List D → Prop
  | [] => True
  | x :: xs => ib x ∧ ibs xs
end
theorem ibs_iff : ∀ {xs : List D}, ibs xs ↔ ∀ x ∈ xs, ib x
  | [] => by simp [ibs]
  | a :: xs => by simp [ibs, ibs_iff (xs := xs)]
theorem ib_tup {xs : List D} : ib (.tup xs) ↔ ∀ x ∈ xs, ib x := by rw [ib, ibs_iff]
theorem ib_lst {xs : List D} : ib (.lst xs) ↔ ∀ x ∈ xs, ib x := by rw [ib, ibs_iff]
theorem ib_noN {d : D} (h : ib d) : d.noN = true := by
  cases d with
  | dN _ => simp [ib] at h
  | _ => rfl
theorem big200 {i : Int} (h : small 200 i) : i.natAbs < 10 ^ 4300 := by
  have h1 : i.natAbs < 2 ^ 200 := h
  have h2 : (2 : Nat) ^ 200 ≤ 10 ^ 100 := by decide +kernel
  have h3 : (10 : Nat) ^ 100 ≤ 10 ^ 4300 := Nat.pow_le_pow_right (by decide) (by decide)
  omega
mutual
theorem ib_oks : ∀ {d : D}, ib d → d.oks
  | .int i, h => by simp only [ib] at h; simp only [D.oks]; exact big200 h
  | .tup xs, h => by simp only [ib] at h; simp only [D.oks]; exact ibs_okss h
  | .lst xs, h => by simp only [ib] at h; simp only [D.oks]; exact ibs_okss h
  | .dK kvs, h => by simp only [ib] at h; simp only [D.oks]; exact h
  | .dN _, h => by simp [ib] at h
  | .non, _ => by simp only [D.oks]
  | .bl _, _ => by simp only [D.oks]
  | .str _, _ => by simp only [D.oks]
theorem ibs_okss : ∀ {xs : List D}, ibs xs → D.okss xs
  | [], _ => by simp only [D.okss]
  | x :: xs, h => by simp only [ibs] at h; simp only [D.okss]; exact ⟨ib_oks h.1, ibs_okss h.2⟩
end
structure Het (n j : Nat) (d : D) : Prop where
  ib : ib d
  len : d.px.shown.length ≤ n
  deep : d.px.depth ≤ j
section
variable {n m j k : Nat} {d : D} {ds : List D}
theorem Het.mono (h : Het n j d) (h1 : n ≤ m) (h2 : j ≤ k) : Het m k d := ⟨h.ib, Nat.le_trans h.len h1, Nat.le_trans h.deep h2⟩
theorem Het.ok (h : Het n j d) (hn : n ≤ sizeLine) (hj : j ≤ 60) : hetOk d := ⟨ib_oks h.ib, Nat.le_trans h.len hn, Nat.le_trans h.deep hj, fun i e => by
  have := h.ib
  rw [e, K50.ib] at this
  exact Nat.lt_trans (PySem.Flt.log2_lt_of (by decide) this) (by decide)⟩
theorem het_each : ∀ {ds : List D}, (∀ d ∈ ds, Het n j d) → (∀ t ∈ PyData.shownAll (D.pxs ds), t.length ≤ n) ∧ PyData.depthAll (D.pxs ds) ≤ j ∧ (PyData.shownAll (D.pxs ds)).length = ds.length
  | [], _ => ⟨by simp [D.pxs, PyData.shownAll], by simp [D.pxs, PyData.depthAll], by simp [D.pxs, PyData.shownAll]⟩
  | d :: ds, h => by
    have h1 := h d List.mem_cons_self
    obtain ⟨c, e, f⟩ := het_each fun x hx => h x (List.mem_cons_of_mem _ hx)
    refine ⟨fun t ht => ?_, ?_, ?_⟩
    · simp only [D.pxs, PyData.shownAll] at ht
      rcases List.mem_cons.mp ht with rfl | ht
      · exact h1.len
      · exact c t ht
    · simp only [D.pxs, PyData.depthAll]
      exact Nat.max_le.mpr ⟨h1.deep, e⟩
    · simp only [D.pxs, PyData.shownAll, List.length_cons, f]
theorem het_tup (h : ∀ d ∈ ds, Het n j d) : Het (ds.length * (n + 2) + 3) (j + 1) (.tup ds) := by
  obtain ⟨c, e, f⟩ := het_each h
  refine ⟨ib_tup.mpr fun x hx => (h x hx).ib, ?_, ?_⟩
  · simp only [D.px, PyData.shown]
    rw [← f]; exact tupleText_le c
  · simp only [D.px, PyData.depth]; omega
theorem het_lst (h : ∀ d ∈ ds, Het n j d) : Het (ds.length * (n + 2) + 3) (j + 1) (.lst ds) := by
  obtain ⟨c, e, f⟩ := het_each h
  refine ⟨ib_lst.mpr fun x hx => (h x hx).ib, ?_, ?_⟩
  · simp only [D.px, PyData.shown]
    rw [← f]; exact listText_le c
  · simp only [D.px, PyData.depth]; omega
theorem het_int {i : Int} (h : small 200 i) : Het 70 0 (.int i) := by
  refine ⟨by rw [ib]; exact h, ?_, by simp only [D.px, PyData.depth]; exact Nat.le_refl _⟩
  simp only [D.px, PyData.shown]
  have h2 : (2 : Nat) ^ 200 ≤ 10 ^ 61 := by decide +kernel
  have e := int_text_length_le10 (k := 61) (by decide) (Nat.lt_of_lt_of_le h h2)
  rw [PySem.ofString_length]; omega
theorem het_bl (b : Bool) : Het 5 0 (.bl b) := ⟨by simp only [ib], by simp only [D.px, PyData.shown]; cases b <;> decide, by simp only [D.px, PyData.depth]; exact Nat.le_refl _⟩
theorem het_non : Het 5 0 .non := ⟨by simp only [ib], by simp only [D.px, PyData.shown]; decide, by simp only [D.px, PyData.depth]; exact Nat.le_refl _⟩
theorem het_dK : Het 5 1 (.dK []) := ⟨by simp only [ib], by simp only [D.px, PyData.shown, PyData.shownKv]; decide, by simp only [D.px, PyData.depth, PyData.depthKv]; exact Nat.le_refl _⟩
theorem het_str (x : Str) (h : (reprText x).length ≤ n) : Het n 0 (.str x) := ⟨by simp only [ib], by simp only [D.px, PyData.shown]; exact h, by simp only [D.px, PyData.depth]; exact Nat.le_refl _⟩
theorem hets_nil : ∀ x ∈ ([] : List D), Het n j x := by simp
theorem hets_cons (h : Het n j d) (h2 : ∀ x ∈ ds, Het n j x) : ∀ x ∈ d :: ds, Het n j x := fun x hx => by
  rcases List.mem_cons.mp hx with rfl | hx
  · exact h
  · exact h2 x hx
theorem hets_append {es : List D} (h : ∀ x ∈ ds, Het n j x) (h2 : ∀ x ∈ es, Het n j x) : ∀ x ∈ ds ++ es, Het n j x := fun x hx => by
  rcases List.mem_append.mp hx with hx | hx
  · exact h x hx
  · exact h2 x hx
end
/-! ### what is asked -/
def isI : D → Bool
  | .int _ => true
  | _ => false
def isPw : D → Bool
  | .int p => decide (p ≥ 0)
  | _ => false
def isP (n : Int) : D → Bool
  | .tup xs => decide ((xs.length : Int) = n) && xs.all isPw
  | _ => false
def isNz : D → Bool
  | .int c => !decide (c = 0)
  | _ => false
def isMem (n : Int) : D → Bool
  | .tup [a, b] => isP n a && isNz b
  | _ => false
def keyOf : D → List Int
  | .tup (.tup xs :: _) => xs.filterMap fun d => match d with | .int i => some i | _ => none
  | _ => []
def chainB (ks : List (List Int)) : Bool := (List.range (ks.length - 1)).all fun i => HT.lexLt (ks.getD i []) (ks.getD (i + 1) [])
def isMeanB (n : Int) : D → Bool
  | .tup xs => xs.all (isMem n) && chainB (xs.map keyOf)
  | _ => false
def isFB : D → Bool
  | .tup [.int p, .int q] => decide (0 < q) && decide (Int.gcd p q = 1)
  | _ => false
theorem isI_eq (d : D) : (if isIntB d = true then !isBlB d else false) = isI d := by cases d <;> rfl
theorem all_ints : ∀ {xs : List D}, xs.all isPw = true → ∃ ns : List Int, xs = ns.map D.int
  | [], _ => ⟨[], rfl⟩
  | d :: xs, h => by
    rw [List.all_cons, Bool.and_eq_true] at h
    obtain ⟨ns, rfl⟩ := all_ints h.2
    cases d with
    | int i => exact ⟨i :: ns, rfl⟩
    | _ => exact absurd h.1 (by simp [isPw])
theorem fm_ints : ∀ ns : List Int, (ns.map D.int).filterMap (fun d => match d with | .int i => some i | _ => none) = ns
  | [] => rfl
  | a :: ns => by rw [List.map_cons, List.filterMap_cons]; simp only; rw [fm_ints ns]
theorem mem_key {n : Int} {d : D} (h : isMem n d = true) : ∃ (k : List Int) (c : Int), d = .tup [.tup (k.map D.int), .int c] ∧ keyOf d = k ∧ (k.length : Int) = n ∧ (∀ p ∈ k, 0 ≤ p) ∧ c ≠ 0 := by
  unfold isMem at h
  split at h
  · rename_i a b
    rw [Bool.and_eq_true] at h
    obtain ⟨h1, h3⟩ := h
    unfold isP at h1
    split at h1
    · rename_i xs
      rw [Bool.and_eq_true, decide_eq_true_eq] at h1
      obtain ⟨h1, h2⟩ := h1
      unfold isNz at h3
      split at h3
      · rename_i c
        obtain ⟨ns, rfl⟩ := all_ints h2
        refine ⟨ns, c, rfl, ?_, by simpa using h1, ?_, by simpa using h3⟩
        · simp only [keyOf, fm_ints]
        · intro p hp
          have := List.all_eq_true.mp h2 (.int p) (List.mem_map.mpr ⟨p, hp, rfl⟩)
          simpa [isPw] using this
      · cases h3
    · cases h1
  · cases h
theorem eqD_int (a b : Int) : eqD (.int a) (.int b) = decide (a = b) := by
  unfold eqD
  simp only [D.pd, PyData.eqv]
  rfl
theorem isI_form {d : D} (h : isI d = true) : ∃ i : Int, d = .int i := by
  cases d with
  | int i => exact ⟨i, rfl⟩
  | _ => cases h
theorem two_of {xs : List D} (h : xs.length = 2) : ∃ a b, xs = [a, b] := by
  match xs, h with
  | [a, b], _ => exact ⟨a, b, rfl⟩
theorem bls_map {α : Type} (f : α → Bool) (xs : List α) : xs.map (fun d => D.bl (f d)) = (xs.map f).map D.bl := by rw [List.map_map]; rfl
theorem all_map {α : Type} (f : α → Bool) : ∀ xs : List α, (xs.map f).all id = xs.all f
  | [] => rfl
  | a :: xs => by rw [List.map_cons, List.all_cons, List.all_cons, all_map f xs]; rfl
theorem ib_mem {xs : List D} {d : D} (h : ib (.tup xs)) (hd : d ∈ xs) : ib d := ib_tup.mp h d hd
theorem mem_keyed {n : Int} {xs : List D} (h : xs.all (isMem n) = true) {i : Nat} {d : D} (hd : xs[i]? = some d) : ∃ (k : List Int) (c : Int), d = .tup [.tup (k.map D.int), .int c] ∧ (xs.map keyOf).getD i [] = k := by
  obtain ⟨k, c, e, hk, _⟩ := mem_key (List.all_eq_true.mp h d (List.mem_of_getElem? hd))
  refine ⟨k, c, e, ?_⟩
  rw [List.getD_eq_getElem?_getD, List.getElem?_map, hd]
  simpa using hk
theorem range_int {n k : Nat} {d : D} (h : (rangeD 0 n)[k]? = some d) : d = .int (k : Int) ∧ k < n := by
  rw [range_map] at h
  obtain ⟨i, hi, rfl⟩ := of_map h
  obtain ⟨rfl, h2⟩ := range_get hi
  exact ⟨rfl, h2⟩
theorem rangeD_len (a : Int) (n : Nat) : (rangeD a n).length = n := by simp [rangeD]
theorem eqOk_pair (a b : Int) : (D.tup [.int a, .int b]).eqOk = true := by
  unfold D.eqOk
  simp [D.nodict, D.nodicts, D.pd, D.pds, SeqAt.shaped, PyData.canLay0, PyData.canLayAll0, PyData.depth, PyData.depthAll]
theorem eqD_pair (a b c d : Int) : eqD (.tup [.int a, .int b]) (.tup [.int c, .int d]) = (decide (a = c) && decide (b = d)) := by
  unfold eqD
  simp only [D.pd, D.pds, PyData.eqv, PyData.eqvAll, Bool.and_true]
  rfl
theorem fr_same {p t : Int} (ht : 0 < t) : eqD (frD (fr p t)) (.tup [.int p, .int t]) = decide (Int.gcd p t = 1) := by
  show eqD (.tup [.int (fr p t).1, .int (fr p t).2]) _ = _
  rw [eqD_pair]
  by_cases h : Int.gcd p t = 1
  · have := fr_scale (g := 1) (a := p) (b := t) (by decide) ht h
    rw [Int.one_mul, Int.one_mul] at this
    rw [this, decide_eq_true h]; simp
  · rw [decide_eq_false h]
    have hx := fr_ok (p := p) (n := p.natAbs + t.natAbs + 1) (q := t) (by omega) (Nat.lt_of_le_of_lt (by omega) (Nat.lt_two_pow_self)) (Nat.lt_of_le_of_lt (by omega) (Nat.lt_two_pow_self))
    by_cases e1 : (fr p t).1 = p
    · by_cases e2 : (fr p t).2 = t
      · have := hx.gcd
        rw [e1, e2] at this
        exact absurd this h
      · rw [decide_eq_false e2, Bool.and_false]
    · rw [decide_eq_false e1, Bool.false_and]
theorem keyFilter {zs : List D} : (zs.filter fun d => !isI d).length = 0 ↔ ∀ d ∈ zs, isI d = true := by
  rw [List.length_eq_zero_iff, List.filter_eq_nil_iff]
  simp
theorem pwFilter {zs : List D} : (zs.filter fun d => !isPw d).length = 0 ↔ zs.all isPw = true := by
  rw [List.length_eq_zero_iff, List.filter_eq_nil_iff, List.all_eq_true]
  simp
theorem all_step {α : Type} {f : α → Bool} {xs : List α} {k : Nat} {d : α} (h : xs[k]? = some d) (h1 : (xs.take k).all f = true) (h2 : f d = true) : (xs.take (k + 1)).all f = true := by
  rw [List.take_add_one, h, List.all_append, h1]
  simp [h2]
theorem isMem_two {n : Int} {ys : List D} (h : ¬ (ys.length : Int) = 2) : isMem n (.tup ys) = false := by
  unfold isMem
  split
  · rename_i e; injection e with e; rw [e] at h; exact absurd rfl h
  · rfl
theorem isMem_key {n : Int} {a b : D} (h : isP n a = false) : isMem n (.tup [a, b]) = false := by
  show (isP n a && isNz b) = false
  rw [h, Bool.false_and]
theorem isMem_val {n : Int} {a b : D} (h : isNz b = false) : isMem n (.tup [a, b]) = false := by
  show (isP n a && isNz b) = false
  rw [h, Bool.and_false]
theorem range_int1 {a : Int} {n k : Nat} {d : D} (h : (rangeD a n)[k]? = some d) : d = .int (a + (k : Int)) ∧ k < n := by
  unfold rangeD at h
  obtain ⟨i, hi, rfl⟩ := of_map h
  obtain ⟨rfl, h2⟩ := range_get hi
  exact ⟨rfl, h2⟩
theorem filter_all {α : Type} {f : α → Bool} {g : α → D} {xs : List α} : decide (((xs.filter fun x => !f x).map g).length = 0) = xs.all f := by
  rw [List.length_map, Bool.eq_iff_iff, decide_eq_true_eq, List.length_eq_zero_iff, List.filter_eq_nil_iff, List.all_eq_true]
  simp
end K50
end
section
set_option maxRecDepth 100000
set_option exponentiation.threshold 20000
/-! K50fall: falling products; rows of things; a mean's row along a kind. -/
namespace K50
open PySem PySem.Spec PyProof.Rows L2 DL K49
abbrev Row := K49.Row
/-! ### rows of things -/
def behind (rs : List (List Int)) (ss : List Int) : List (List Int) := rs.flatMap fun r => ss.map fun s => r ++ [s]
theorem behind_step {rs : List (List Int)} {ss : List Int} {k : Nat} {r : List Int} (h : rs[k]? = some r) : behind (rs.take (k + 1)) ss = behind (rs.take k) ss ++ ss.map fun s => r ++ [s] := by
  unfold behind
  rw [List.take_add_one, h, List.flatMap_append]
  simp
theorem behind_len : ∀ {rs : List (List Int)} {ss : List Int}, (behind rs ss).length = rs.length * ss.length
  | [], ss => by simp [behind]
  | r :: rs, ss => by
    have := behind_len (rs := rs) (ss := ss)
    unfold behind at this ⊢
    rw [List.flatMap_cons, List.length_append, List.length_map, this, List.length_cons, Nat.succ_mul, Nat.add_comm]
def rangeI (n : Nat) : List Int := (List.range n).map fun (i : Nat) => (i : Int)
theorem rangeD_I (n : Nat) : rangeD 0 n = (rangeI n).map D.int := by
  rw [range_map]; unfold rangeI; rw [List.map_map]; rfl
def rowsN (n : Nat) : Nat → List (List Int)
  | 0 => [[]]
  | m + 1 => behind (rowsN n m) (rangeI n)
def dictLen (r : List Int) : Nat := (mergeKD [] (r.map fun t => ((Sum.inl t : Key), D.int 0))).length
def unl (n m : Nat) : Nat := ((rowsN n m).filter fun r => decide (dictLen r = m)).length
def fallI (n : Int) : Nat → Int
  | 0 => 1
  | m + 1 => fallI n m * (n - m)
/-- the lengths alone, for the kernel -/
def keyCount (r : List Int) : Nat := (r.foldl (fun acc t => if t ∈ acc then acc else acc ++ [t]) []).length
open Classical in
theorem put_len1 {kvs : List (Key × D)} {k : Key} {v : D} : (putKD kvs k v).map (·.1) = if k ∈ kvs.map (·.1) then kvs.map (·.1) else kvs.map (·.1) ++ [k] := by
  unfold putKD
  have e : (kvs.any fun kv => decide (kv.1 = k)) = true ↔ k ∈ kvs.map (·.1) := by
    rw [List.any_eq_true, List.mem_map]
    simp only [decide_eq_true_eq]
  by_cases h : k ∈ kvs.map (·.1)
  · rw [if_pos (e.mpr h), if_pos h, List.map_map]
    refine List.map_congr_left fun x _ => ?_
    simp only [Function.comp]
    split <;> rfl
  · rw [if_neg fun z => h (e.mp z), if_neg h, List.map_append]; rfl
theorem dict_keys : ∀ (r : List Int) (kvs : List (Key × D)) (acc : List Int), kvs.map (·.1) = acc.map Sum.inl → ((r.map fun t => ((Sum.inl t : Key), D.int 0)).foldl (fun acc kv => putKD acc kv.1 kv.2) kvs).map (·.1) = (r.foldl (fun acc t => if t ∈ acc then acc else acc ++ [t]) acc).map Sum.inl
  | [], kvs, acc, h => h
  | t :: r, kvs, acc, h => by
    rw [List.map_cons, List.foldl_cons, List.foldl_cons]
    refine dict_keys r _ _ ?_
    rw [put_len1, h]
    have e : (Sum.inl t : Key) ∈ acc.map Sum.inl ↔ t ∈ acc := by
      rw [List.mem_map]
      constructor
      · rintro ⟨x, hx, e⟩
        injection e with e
        rw [← e]; exact hx
      · intro hx; exact ⟨t, hx, rfl⟩
    by_cases z : t ∈ acc
    · rw [if_pos (e.mpr z), if_pos z]
    · rw [if_neg fun q => z (e.mp q), if_neg z, List.map_append]; rfl
theorem dictLen_eq (r : List Int) : dictLen r = keyCount r := by
  have := congrArg List.length (dict_keys r [] [] rfl)
  rw [List.length_map, List.length_map] at this
  exact this
def unl2 (n m : Nat) : Nat := ((rowsN n m).filter fun r => decide (keyCount r = m)).length
theorem unl_eq (n m : Nat) : unl n m = unl2 n m := by
  unfold unl unl2
  congr 2
  funext r
  rw [dictLen_eq]
theorem unl_small : ∀ n < 4, ∀ m < 5, (unl2 n m : Int) = fallI n m ∧ (rowsN n m).length = n ^ m := by decide +kernel
theorem rowsN_len (n m : Nat) : (rowsN n m).length = n ^ m := by
  induction m with
  | zero => rfl
  | succ m ih =>
    show (behind (rowsN n m) (rangeI n)).length = _
    rw [behind_len, ih, Nat.pow_succ]
    unfold rangeI
    rw [List.length_map, List.length_range]
theorem rowsN_row : ∀ (n m : Nat), ∀ r ∈ rowsN n m, r.length = m
  | n, 0, r, h => by rw [List.mem_singleton.mp h]; rfl
  | n, m + 1, r, h => by
    unfold rowsN behind at h
    obtain ⟨x, hx, h⟩ := List.mem_flatMap.mp h
    obtain ⟨s, _, rfl⟩ := List.mem_map.mp h
    rw [List.length_append, rowsN_row n m x hx]; rfl
/-! ### falling products -/
def frow : Nat → List Int
  | 0 => [1]
  | i + 1 => ((frow i ++ [0]).zip (0 :: frow i)).map fun (p : Int × Int) => p.1 - (i : Int) * p.2
def fkey (n k p : Nat) : List Int := List.replicate k (0 : Int) ++ [(p : Int)] ++ List.replicate (n - k - 1) 0
def frows (n k : Nat) : Nat → List Int → List Row
  | _, [] => []
  | j, c :: cs => (fkey n k j, c) :: frows n k (j + 1) cs
def fallRows (n k m : Nat) : List Row := frows n k 0 (frow m)
theorem frow_len : ∀ m, (frow m).length = m + 1
  | 0 => rfl
  | m + 1 => by
    show (List.map _ _).length = _
    rw [List.length_map, List.length_zip, List.length_append, List.length_cons, frow_len m]
    show min (m + 1 + 1) ((frow m).length + 1) = _
    rw [frow_len m]
    exact Nat.min_self _
theorem frows_get {n k : Nat} : ∀ {row : List Int} {j t : Nat} {x : Int}, row[t]? = some x → (frows n k j row)[t]? = some (fkey n k (j + t), x)
  | [], j, t, x, h => by simp at h
  | c :: cs, j, 0, x, h => by simp at h; subst h; rfl
  | c :: cs, j, t + 1, x, h => by
    rw [List.getElem?_cons_succ] at h
    have := frows_get (n := n) (k := k) (j := j + 1) h
    show (frows n k (j + 1) cs)[t]? = _
    rw [this, show j + 1 + t = j + (t + 1) by omega]
theorem frows_len {n k : Nat} : ∀ {row : List Int} {j : Nat}, (frows n k j row).length = row.length
  | [], _ => rfl
  | _ :: cs, j => by show (frows n k (j + 1) cs).length + 1 = cs.length + 1; rw [frows_len]
theorem frows_mem {n k : Nat} : ∀ {row : List Int} {j : Nat} {r : Row}, r ∈ frows n k j row → ∃ t, j ≤ t ∧ t < j + row.length ∧ r.1 = fkey n k t ∧ r.2 ∈ row
  | [], j, r, h => by simp [frows] at h
  | c :: cs, j, r, h => by
    rcases List.mem_cons.mp (show r ∈ (fkey n k j, c) :: frows n k (j + 1) cs from h) with rfl | h
    · exact ⟨j, Nat.le_refl _, by simp, rfl, List.mem_cons_self⟩
    · obtain ⟨t, h1, h2, h3, h4⟩ := frows_mem h
      exact ⟨t, by omega, by simp at h2 ⊢; omega, h3, List.mem_cons_of_mem _ h4⟩
theorem fkey_len {n k p : Nat} (h : k < n) : (fkey n k p).length = n := by
  unfold fkey
  rw [List.length_append, List.length_append, List.length_replicate, List.length_replicate]
  show k + 1 + (n - k - 1) = n
  omega
theorem fkey_nn {n k p : Nat} : ∀ x ∈ fkey n k p, 0 ≤ x ∧ x ≤ p := fun x hx => by
  unfold fkey at hx
  rcases List.mem_append.mp hx with hx | hx
  · rcases List.mem_append.mp hx with hx | hx
    · rw [(List.mem_replicate.mp hx).2]; omega
    · rw [List.mem_singleton.mp hx]; omega
  · rw [(List.mem_replicate.mp hx).2]; omega
theorem frow_small1 : ∀ m < 13, ∀ c ∈ frow m, c.natAbs < 1099511627776 := by decide +kernel
theorem frow_small {m : Nat} (h : m < 13) : ∀ c ∈ frow m, small 40 c := fun c hc => by
  unfold small
  rw [show (2 : Nat) ^ 40 = 1099511627776 by decide +kernel]
  exact frow_small1 m h c hc
theorem frow_nz : ∀ m < 13, ((frow m).filter fun c => decide (c ≠ 0)).length = if m = 0 then 1 else m := by decide +kernel
theorem imm_app : ∀ {a b : List D}, D.immL (a ++ b) = (D.immL a && D.immL b)
  | [], b => by simp [D.immL]
  | x :: a, b => by rw [List.cons_append, D.immL, D.immL, imm_app, Bool.and_assoc]
theorem fkey_D {n k p : Nat} : (fkey n k p).map D.int = (List.replicate k (0 : Int)).map D.int ++ [D.int (p : Int)] ++ (List.replicate (n - k - 1) (0 : Int)).map D.int := by
  unfold fkey
  rw [List.map_append, List.map_append]; rfl
/-! ### a mean's row along a kind -/
def rowStep (s g : List Int) (k : Nat) (row : List Int) (r : Row) : List Int :=
  row.set ((psub g r.1).getD k 0).toNat (row.getD ((psub g r.1).getD k 0).toNat 0 + r.2 * pw (s.set k 1) (psub g r.1))
def mrow (s : List Int) (k : Nat) (m : List Row) : List Int := m.foldl (rowStep s (great s.length m) k) (List.replicate (((great s.length m).getD k 0).toNat + 1) 0)
theorem others_get {s : List Int} {k j : Nat} {x : Int} (h : s[j]? = some x) : (s.set k 1)[j]? = some (if j = k then 1 else x) := by
  by_cases e : j = k
  · subst e
    rw [if_pos rfl, List.getElem?_set_self (List.getElem?_eq_some_iff.mp h).1]
  · rw [if_neg e, List.getElem?_set_ne (fun z => e z.symm), h]
theorem rowStep_len {s g : List Int} {k : Nat} {row : List Int} {r : Row} : (rowStep s g k row r).length = row.length := by unfold rowStep; rw [List.length_set]
theorem rows_len2 {s g : List Int} {k : Nat} : ∀ {m : List Row} {row : List Int}, (m.foldl (rowStep s g k) row).length = row.length
  | [], _ => rfl
  | r :: m, row => by rw [List.foldl_cons, rows_len2, rowStep_len]
theorem psub_get {g k : List Int} {i : Nat} (h1 : i < g.length) (h2 : i < k.length) : (psub g k).getD i 0 = g.getD i 0 - k.getD i 0 := by
  have hz : (g.zip k)[i]? = some (g[i], k[i]) := List.getElem?_zip_eq_some.mpr ⟨List.getElem?_eq_getElem h1, List.getElem?_eq_getElem h2⟩
  unfold psub
  rw [List.getD_eq_getElem?_getD, List.getD_eq_getElem?_getD, List.getD_eq_getElem?_getD, List.getElem?_map, hz, List.getElem?_eq_getElem h1, List.getElem?_eq_getElem h2]
  rfl
theorem getD_get {l : List Int} {i : Nat} (h : i < l.length) : l[i]? = some (l.getD i 0) := by
  rw [List.getD_eq_getElem?_getD, List.getElem?_eq_getElem h]; rfl
theorem set_small {s : List Int} {k : Nat} (h : ∀ x ∈ s, small 101 x) : ∀ x ∈ s.set k 1, small 101 x := fun x hx => by
  rcases List.mem_or_eq_of_mem_set hx with hx | rfl
  · exact h x hx
  · unfold small; exact Nat.one_lt_two_pow (by decide)
end K50
end
section
set_option maxRecDepth 100000
set_option exponentiation.threshold 20000
/-! K50bent: values of ints and tuples, such values with something otherwise. -/
namespace K50
open PySem PySem.Spec PyProof.Rows L2 DL K49
def PV : Nat → D → Prop
  | 0, d => ∃ i : Int, d = .int i ∧ small 100 i
  | n + 1, d => (∃ i : Int, d = .int i ∧ small 100 i) ∨ ∃ xs : List D, d = .tup xs ∧ xs.length ≤ 6 ∧ ∀ x ∈ xs, PV n x
def HB : Nat → Nat
  | 0 => 1000
  | n + 1 => 16 * (HB n + 2) + 3
theorem HB_le (n : Nat) : 1000 ≤ HB n := by
  induction n with
  | zero => exact Nat.le_refl _
  | succ n ih => show 1000 ≤ 16 * (HB n + 2) + 3; omega
theorem HB_int {n : Nat} {i : Int} (h : small 100 i) : Het (HB n) n (.int i) := (het_int (h.mono (by decide))).mono (by have := HB_le n; omega) (Nat.zero_le _)
theorem PV.het : ∀ {n : Nat} {d : D}, PV n d → Het (HB n) n d
  | 0, d, ⟨i, e, h⟩ => by subst e; exact HB_int h
  | n + 1, d, .inl ⟨i, e, h⟩ => by subst e; exact HB_int h
  | n + 1, d, .inr ⟨xs, e, hl, h⟩ => by
    subst e
    refine (het_tup fun x hx => PV.het (h x hx)).mono ?_ (Nat.le_refl _)
    show _ ≤ 16 * (HB n + 2) + 3
    have := Nat.mul_le_mul_right (HB n + 2) hl
    omega
theorem PV.ib {n : Nat} {d : D} (h : PV n d) : ib d := h.het.ib
theorem nodicts_iff : ∀ {xs : List D}, D.nodicts xs = true ↔ ∀ x ∈ xs, x.nodict = true
  | [] => by simp [D.nodicts]
  | a :: xs => by simp [D.nodicts, nodicts_iff (xs := xs)]
theorem layAll_iff : ∀ {xs : List D}, PyData.canLayAll0 (D.pds xs) = true ↔ ∀ x ∈ xs, x.pd.canLay0 = true
  | [] => by simp [D.pds, PyData.canLayAll0]
  | a :: xs => by simp [D.pds, PyData.canLayAll0, layAll_iff (xs := xs)]
theorem depthAll_le {n : Nat} : ∀ {xs : List D}, (∀ x ∈ xs, x.pd.depth ≤ n) → PyData.depthAll (D.pds xs) ≤ n
  | [], _ => by simp [D.pds, PyData.depthAll]
  | a :: xs, h => by
    simp only [D.pds, PyData.depthAll]
    exact Nat.max_le.mpr ⟨h a List.mem_cons_self, depthAll_le fun x hx => h x (List.mem_cons_of_mem _ hx)⟩
theorem PV.shape : ∀ {n : Nat} {d : D}, PV n d → d.nodict = true ∧ d.pd.canLay0 = true ∧ d.pd.depth ≤ n
  | 0, d, ⟨i, e, h⟩ => by subst e; simp [D.nodict, D.pd, PyData.canLay0, PyData.depth]
  | n + 1, d, .inl ⟨i, e, h⟩ => by subst e; simp [D.nodict, D.pd, PyData.canLay0, PyData.depth]
  | n + 1, d, .inr ⟨xs, e, hl, h⟩ => by
    subst e
    refine ⟨?_, ?_, ?_⟩
    · rw [D.nodict]; exact nodicts_iff.mpr fun x hx => (PV.shape (h x hx)).1
    · simp only [D.pd, PyData.canLay0]; exact layAll_iff.mpr fun x hx => (PV.shape (h x hx)).2.1
    · simp only [D.pd, PyData.depth]
      have := depthAll_le fun x hx => (PV.shape (h x hx)).2.2
      omega
theorem PV.eqOk {n : Nat} {d : D} (h : PV n d) (hn : n ≤ 60) : d.eqOk = true := by
  obtain ⟨a, b, c⟩ := h.shape
  unfold D.eqOk SeqAt.shaped
  rw [a, b, Bool.true_and, Bool.true_and]
  exact decide_eq_true (by omega)
theorem cut_mem {xs : List D} {l u : Option Int} : ∀ x ∈ DL.cutD xs l u, x ∈ xs := fun x hx => List.mem_of_mem_drop (List.mem_of_mem_take hx)
theorem cut_len {xs : List D} {l u : Option Int} : (DL.cutD xs l u).length ≤ xs.length := by
  unfold DL.cutD
  rw [List.length_take, List.length_drop]; omega
theorem eqD_nil (xs : List D) : eqD (.tup xs) (.tup []) = decide (xs = []) := by
  unfold eqD
  cases xs with
  | nil => simp [D.pd, D.pds, PyData.eqv, PyData.eqvAll]
  | cons a xs => simp [D.pd, D.pds, PyData.eqv, PyData.eqvAll]
theorem bent_tup {n m : Nat} {ds : List D} (h : ∀ x ∈ ds, Het (HB n) (10 + n) x) (hl : ds.length ≤ 14) : Het (HB (n + 1)) (10 + (n + 1)) (.tup ds) := by
  refine (het_tup h).mono ?_ (by omega)
  show _ ≤ 16 * (HB n + 2) + 3
  have := Nat.mul_le_mul_right (HB n + 2) hl
  omega
theorem bent_lst {n m : Nat} {ds : List D} (h : ∀ x ∈ ds, Het (HB n) (10 + n) x) (hl : ds.length ≤ 14) : Het (HB (n + 1)) (10 + (n + 1)) (.lst ds) := by
  refine (het_lst h).mono ?_ (by omega)
  show _ ≤ 16 * (HB n + 2) + 3
  have := Nat.mul_le_mul_right (HB n + 2) hl
  omega
theorem PV.form : ∀ {n : Nat} {d : D}, PV n d → (∃ i : Int, d = .int i ∧ small 100 i) ∨ ∃ (m : Nat) (xs : List D), n = m + 1 ∧ d = .tup xs ∧ xs.length ≤ 6 ∧ ∀ x ∈ xs, PV m x
  | 0, d, ⟨i, e, h⟩ => .inl ⟨i, e, h⟩
  | n + 1, d, .inl h => .inl h
  | n + 1, d, .inr ⟨xs, h⟩ => .inr ⟨n, xs, rfl, h⟩
theorem HB_het {n j : Nat} {i : Int} (h : small 102 i) : Het (HB n) j (.int i) := (het_int (h.mono (by decide))).mono (by have := HB_le n; omega) (Nat.zero_le _)
end K50
end
section
set_option maxRecDepth 100000
set_option exponentiation.threshold 20000
/-! K50sum: falling products at sizes; the order of a mean's rows; a row along a kind, added up. -/
namespace K50
open PySem PySem.Spec PyProof.Rows L2 DL K49
/-! ### the order -/
theorem lex_lt : ∀ a b : List Int, HT.lexLt a b = decide (a < b)
  | [], [] => by rw [HT.lexLt_nil_nil]; simp
  | [], _ :: _ => by rw [HT.lexLt_nil_cons]; simp
  | _ :: _, [] => by rw [HT.lexLt_cons_nil]; simp
  | x :: a, y :: b => by
    rw [HT.lexLt_cons, lex_lt a b]
    by_cases e : x = y
    · subst e
      rw [if_pos rfl, Bool.eq_iff_iff, decide_eq_true_eq, decide_eq_true_eq, List.cons_lt_cons_iff]
      simp
    · rw [if_neg e, Bool.eq_iff_iff, decide_eq_true_eq, decide_eq_true_eq, List.cons_lt_cons_iff]
      simp [e]
theorem leK_lt {a b : List Int} (h : leK a b = true) (hne : a ≠ b) : HT.lexLt a b = true := by
  have h' : (!PySem.W.dataLt (kD b).pd (kD a).pd) = true := h
  rw [kD_pd, kD_pd, PySem.W.dataLt_tuple] at h'
  have h2 : PyProof.Rows.lexLt PyProof.Rows.itemOrd (PySem.W.keyToksAll (b.map PyData.int)) (PySem.W.keyToksAll (a.map PyData.int)) = decide (b < a) := PySem.W.dataLt_ints b a
  rw [h2] at h'
  have h3 : ¬ b < a := by simpa using h'
  rw [lex_lt, decide_eq_true_eq]
  rcases Std.le_total (a := a) (b := b) with h4 | h4
  · exact Std.lt_of_le_of_ne h4 hne
  · exact absurd (Std.lt_of_le_of_ne h4 (Ne.symm hne)) h3
theorem mean_chain {m : List Row} (hc : Canon m) : chainB (m.map fun r => r.1) = true := by
  unfold chainB
  rw [List.all_eq_true]
  intro i hi
  rw [List.mem_range, List.length_map] at hi
  have h1 : i < m.length := by omega
  have h2 : i + 1 < m.length := by omega
  have e1 : (m.map fun r => r.1).getD i [] = m[i].1 := by rw [List.getD_eq_getElem?_getD, List.getElem?_map, List.getElem?_eq_getElem h1]; rfl
  have e2 : (m.map fun r => r.1).getD (i + 1) [] = m[i + 1].1 := by rw [List.getD_eq_getElem?_getD, List.getElem?_map, List.getElem?_eq_getElem h2]; rfl
  rw [e1, e2]
  have hs := List.pairwise_iff_getElem.mp hc.sorted i (i + 1) h1 h2 (by omega)
  have hne : m[i].1 ≠ m[i + 1].1 := by
    have hk := List.pairwise_iff_getElem.mp hc.keys i (i + 1) (by rw [List.length_map]; exact h1) (by rw [List.length_map]; exact h2) (by omega)
    rw [List.getElem_map, List.getElem_map] at hk
    exact hk
  rw [leR_leK hne] at hs
  exact leK_lt hs hne
theorem keyOf_row (r : Row) : keyOf (rowD r) = r.1 := by
  rw [rowD_e]
  simp only [keyOf, fm_ints]
theorem mean_is {n : Nat} {m : List Row} (hc : Canon m) (h : ∀ r ∈ m, r.1.length = n ∧ ∀ p ∈ r.1, 0 ≤ p) : isMeanB n (mD m) = true := by
  show ((m.map rowD).all (isMem n) && chainB ((m.map rowD).map keyOf)) = true
  have e : (m.map rowD).map keyOf = m.map fun r => r.1 := by rw [List.map_map]; exact List.map_congr_left fun r _ => keyOf_row r
  rw [e, mean_chain hc, Bool.and_true, List.all_eq_true]
  intro d hd
  obtain ⟨r, hr, rfl⟩ := List.mem_map.mp hd
  obtain ⟨h1, h2⟩ := h r hr
  have hz := hc.nz r hr
  show ((decide (((r.1.map D.int).length : Int) = (n : Int)) && (r.1.map D.int).all isPw) && !decide (r.2 = 0)) = true
  rw [decide_eq_true (by rw [List.length_map, h1]), decide_eq_false hz]
  simp only [Bool.true_and, Bool.not_false, Bool.and_true]
  rw [List.all_eq_true]
  intro d hd
  obtain ⟨p, hp, rfl⟩ := List.mem_map.mp hd
  exact decide_eq_true (h2 p hp)
/-! ### falling products at sizes -/
def powR (x : Rat) : Nat → Rat
  | 0 => 1
  | j + 1 => x * powR x j
def evR (x : Rat) : List Int → Rat
  | [] => 0
  | c :: cs => (c : Rat) + x * evR x cs
def fallR (x : Rat) : Nat → Rat
  | 0 => 1
  | m + 1 => fallR x m * (1 - (m : Int) * x)
theorem evR_snoc {x : Rat} : ∀ row : List Int, evR x (row ++ [0]) = evR x row
  | [] => by show ((0 : Int) : Rat) + x * 0 = 0; rw [Rat.mul_zero, Rat.add_zero]; rfl
  | c :: cs => by
    show (c : Rat) + x * evR x (cs ++ [0]) = _
    rw [evR_snoc cs]; rfl
theorem evR_zip {x : Rat} {i : Int} : ∀ {a b : List Int}, a.length = b.length → evR x ((a.zip b).map fun (p : Int × Int) => p.1 - i * p.2) = evR x a - (i : Rat) * evR x b
  | [], [], _ => by show (0 : Rat) = 0 - (i : Rat) * 0; rw [Rat.mul_zero]; grind
  | [], _ :: _, h => by simp at h
  | _ :: _, [], h => by simp at h
  | p :: a, q :: b, h => by
    have ih := evR_zip (x := x) (i := i) (a := a) (b := b) (by simpa using h)
    show ((p - i * q : Int) : Rat) + x * evR x ((a.zip b).map _) = ((p : Rat) + x * evR x a) - (i : Rat) * ((q : Rat) + x * evR x b)
    rw [ih, Rat.intCast_sub, Rat.intCast_mul]
    grind
theorem evR_frow {x : Rat} : ∀ m, evR x (frow m) = fallR x m
  | 0 => by show ((1 : Int) : Rat) + x * 0 = 1; rw [Rat.mul_zero, Rat.add_zero]; rfl
  | m + 1 => by
    have ih := evR_frow (x := x) m
    show evR x (((frow m ++ [0]).zip (0 :: frow m)).map fun (p : Int × Int) => p.1 - (m : Int) * p.2) = fallR x m * (1 - (m : Int) * x)
    rw [evR_zip (by rw [List.length_append]; simp), evR_snoc, ih]
    show fallR x m - (((m : Nat) : Int) : Rat) * (((0 : Int) : Rat) + x * evR x (frow m)) = _
    rw [ih]
    have : ((0 : Int) : Rat) = 0 := rfl
    rw [this]
    grind
theorem pw_rep0 {t : Nat} : ∀ {s : List Int}, pw s (List.replicate t 0) = 1
  | [] => by cases t <;> simp [pw]
  | x :: s => by
    cases t with
    | zero => simp [pw]
    | succ t =>
      rw [List.replicate_succ]
      show x ^ (0 : Int).toNat * pw s (List.replicate t 0) = 1
      rw [pw_rep0]; simp
theorem pw_key {p t : Nat} : ∀ {k : Nat} {s : List Int} {z : Int}, s[k]? = some z → pw s (List.replicate k (0 : Int) ++ [(p : Int)] ++ List.replicate t 0) = z ^ p
  | 0, x :: s, z, h => by
    have e : x = z := by simpa using h
    subst e
    show x ^ ((p : Int)).toNat * pw s (List.replicate t 0) = x ^ p
    rw [pw_rep0, Int.mul_one]; rfl
  | k + 1, x :: s, z, h => by
    rw [List.getElem?_cons_succ] at h
    rw [List.replicate_succ]
    show x ^ (0 : Int).toNat * pw s (List.replicate k (0 : Int) ++ [(p : Int)] ++ List.replicate t 0) = z ^ p
    rw [pw_key h]; simp
  | _, [], z, h => by simp at h
theorem cast_ne0 {x : Int} (h : x ≠ 0) : (x : Rat) ≠ 0 := by simpa using h
theorem powR_inv {z : Int} (hz : z ≠ 0) : ∀ j : Nat, (1 : Rat) / ((z ^ j : Int) : Rat) = powR (1 / (z : Rat)) j
  | 0 => by rw [Int.pow_zero]; show (1 : Rat) / ((1 : Int) : Rat) = 1; have : ((1 : Int) : Rat) = 1 := rfl; rw [this]; grind
  | j + 1 => by
    have ih := powR_inv hz j
    have h1 : (z : Rat) ≠ 0 := by simpa using hz
    have h2 : ((z ^ j : Int) : Rat) ≠ 0 := cast_ne0 (Int.pow_ne_zero hz)
    show _ = (1 / (z : Rat)) * powR (1 / (z : Rat)) j
    rw [← ih, Int.pow_succ, Rat.intCast_mul]
    generalize ((z ^ j : Int) : Rat) = w at *
    generalize (z : Rat) = y at *
    grind
theorem sumR_frows {n k : Nat} {s : List Int} {z : Int} (h : s[k]? = some z) (hz : z ≠ 0) : ∀ {row : List Int} {j : Nat}, val s (frows n k j row) = powR (1 / (z : Rat)) j * evR (1 / (z : Rat)) row
  | [], j => by show (0 : Rat) = _ * 0; rw [Rat.mul_zero]
  | c :: cs, j => by
    have ih := sumR_frows (n := n) h hz (row := cs) (j := j + 1)
    show (c : Rat) * mon s (fkey n k j) + val s (frows n k (j + 1) cs) = _
    rw [ih]
    have hm : mon s (fkey n k j) = powR (1 / (z : Rat)) j := by
      unfold mon fkey
      rw [pw_key h, powR_inv hz]
    rw [hm]
    show (c : Rat) * powR (1 / (z : Rat)) j + (1 / (z : Rat) * powR (1 / (z : Rat)) j) * evR (1 / (z : Rat)) cs = powR (1 / (z : Rat)) j * ((c : Rat) + 1 / (z : Rat) * evR (1 / (z : Rat)) cs)
    grind
theorem val_fall {n k m : Nat} {s : List Int} {z : Int} (h : s[k]? = some z) (hz : z ≠ 0) : val s (canon (fallRows n k m)) = fallR (1 / (z : Rat)) m := by
  rw [val_canon]
  unfold fallRows
  rw [sumR_frows h hz, evR_frow]
  show 1 * _ = _
  rw [Rat.one_mul]
theorem fall_step {n : Int} (hn : n ≠ 0) (m : Nat) : times (frac (fallR (1 / (n : Rat)) m)) (fr (n - m) n) = frac (fallR (1 / (n : Rat)) (m + 1)) := by
  rw [fr_frac hn, times_fr]
  congr 1
  have h1 : (n : Rat) ≠ 0 := by simpa using hn
  show _ = fallR (1 / (n : Rat)) m * (1 - ((m : Nat) : Int) * (1 / (n : Rat)))
  rw [Rat.intCast_sub]
  generalize (n : Rat) = y at *
  grind
theorem fall_ints {n : Int} (hn : n ≠ 0) : ∀ m : Nat, ((fallI n m : Int) : Rat) / ((n ^ m : Int) : Rat) = fallR (1 / (n : Rat)) m
  | 0 => by rw [Int.pow_zero]; show ((1 : Int) : Rat) / ((1 : Int) : Rat) = 1; have : ((1 : Int) : Rat) = 1 := rfl; rw [this]; grind
  | m + 1 => by
    have ih := fall_ints hn m
    have h1 : (n : Rat) ≠ 0 := by simpa using hn
    have h2 : ((n ^ m : Int) : Rat) ≠ 0 := cast_ne0 (Int.pow_ne_zero hn)
    show ((fallI n m * (n - m) : Int) : Rat) / ((n ^ (m + 1) : Int) : Rat) = fallR (1 / (n : Rat)) m * (1 - ((m : Nat) : Int) * (1 / (n : Rat)))
    rw [← ih, Int.pow_succ, Rat.intCast_mul, Rat.intCast_mul, Rat.intCast_sub]
    generalize ((n ^ m : Int) : Rat) = w at *
    generalize ((fallI n m : Int) : Rat) = v at *
    generalize (n : Rat) = y at *
    grind
theorem unl_frac {n m : Nat} (h0 : 1 ≤ n) (hn : n < 4) (hm : m < 5) : fr (unl n m : Nat) ((n ^ m : Nat) : Int) = frac (fallR (1 / ((n : Int) : Rat)) m) := by
  have h1 := (unl_small n hn m hm).1
  have hz : (n : Int) ≠ 0 := by omega
  have e : ((n ^ m : Nat) : Int) = (n : Int) ^ m := by rw [Int.natCast_pow]
  rw [unl_eq, h1, e, fr_frac (Int.pow_ne_zero hz), fall_ints hz]
theorem fkey_inj {n k p q : Nat} (h : fkey n k p = fkey n k q) : p = q := by
  unfold fkey at h
  rw [List.append_assoc, List.append_assoc] at h
  have h2 := List.append_cancel_left h
  have h3 : (p : Int) = (q : Int) := by
    have := congrArg List.head? h2
    simpa using this
  omega
theorem frows_nodup {n k : Nat} : ∀ {row : List Int} {j : Nat}, ((frows n k j row).map (·.1)).Nodup
  | [], _ => .nil
  | c :: cs, j => by
    show (fkey n k j :: (frows n k (j + 1) cs).map (·.1)).Nodup
    rw [List.nodup_cons]
    refine ⟨fun h => ?_, frows_nodup⟩
    obtain ⟨r, hr, e⟩ := List.mem_map.mp h
    obtain ⟨t, h1, _, h3, _⟩ := frows_mem hr
    have := fkey_inj (e.symm.trans h3)
    omega
theorem frows_filter {n k : Nat} : ∀ {row : List Int} {j : Nat}, ((frows n k j row).filter fun r => decide (r.2 ≠ 0)).length = (row.filter fun c => decide (c ≠ 0)).length
  | [], _ => rfl
  | c :: cs, j => by
    show (((fkey n k j, c) :: frows n k (j + 1) cs).filter _).length = _
    rw [List.filter_cons, List.filter_cons]
    by_cases h : c = 0
    · rw [if_neg (by simp [h]), if_neg (by simp [h]), frows_filter]
    · rw [if_pos (by simp [h]), if_pos (by simp [h]), List.length_cons, List.length_cons, frows_filter]
theorem canon_nodup_len {m : List Row} (h : (m.map (·.1)).Nodup) : (canon m).length = (m.filter fun r => decide (r.2 ≠ 0)).length := by
  refine List.Perm.length_eq ((List.perm_ext_iff_of_nodup (canon_ok m).rows ((nodup_of h).filter _)).mpr fun r => ?_)
  rw [mem_canon, List.mem_filter, decide_eq_true_eq]
  constructor
  · rintro ⟨a, b⟩
    refine ⟨?_, a⟩
    by_cases e : r.1 ∈ m.map (·.1)
    · obtain ⟨x, hx, e⟩ := List.mem_map.mp e
      have := coef_mem h hx
      rw [e, ← b] at this
      have : x = r := Prod.ext e this.symm
      rw [← this]; exact hx
    · exact absurd (b.trans (coef_none e)) a
  · rintro ⟨a, b⟩
    exact ⟨b, (coef_mem h a).symm⟩
theorem fall_len {n k m : Nat} (hm : m < 13) : (canon (fallRows n k m)).length = if m = 0 then 1 else m := by
  unfold fallRows
  rw [canon_nodup_len frows_nodup, frows_filter, frow_nz m hm]
theorem fall_bd {n k m : Nat} (hk : k < n) (hm : m < 13) : Bd n 13 12 44 (canon (fallRows n k m)) := by
  have : Bd n 13 12 40 (fallRows n k m) := ⟨by unfold fallRows; rw [frows_len, frow_len]; omega, fun r hr => by
    obtain ⟨t, _, h2, h3, h4⟩ := frows_mem hr
    rw [frow_len] at h2
    refine ⟨by rw [h3, fkey_len hk], fun p hp => ?_, frow_small hm _ h4⟩
    rw [h3] at hp
    have := fkey_nn p hp
    omega⟩
  exact this.canon 4 (by decide)
theorem fall_key {n k m : Nat} : ∀ r ∈ canon (fallRows n k m), ∃ t, r.1 = fkey n k t := canon_P (P := fun key => ∃ t, key = fkey n k t) fun r hr => by
  obtain ⟨t, _, _, h3, _⟩ := frows_mem hr
  exact ⟨t, h3⟩
theorem fkey_other {n k t i : Nat} {x : Int} (h : (fkey n k t)[i]? = some x) (hi : i ≠ k) : x = 0 := by
  unfold fkey at h
  by_cases h1 : i < k
  · rw [List.append_assoc, List.getElem?_append_left (by simpa using h1), List.getElem?_replicate, if_pos h1] at h
    exact (Option.some.inj h).symm
  · rw [List.append_assoc, List.getElem?_append_right (by simpa using (Nat.le_of_not_lt h1)), List.length_replicate] at h
    obtain ⟨j, hj⟩ : ∃ j, i - k = j + 1 := ⟨i - k - 1, by omega⟩
    rw [hj] at h
    have h' : (List.replicate (n - k - 1) (0 : Int))[j]? = some x := h
    rw [List.getElem?_replicate] at h'
    split at h'
    · exact (Option.some.inj h').symm
    · cases h'
theorem frac_one : frD (frac 1) = .tup [.int 1, .int 1] := rfl
theorem frac_self (x : Rat) : fr (frac x).1 (frac x).2 = frac x := by
  rw [fr_frac (by have := frac_pos x; omega), frac_div]
theorem sub101 {n : Int} {m : Nat} (h0 : 1 ≤ n) (hn : small 101 n) (hm : m ≤ 12) : small 101 (n - m) := by
  unfold small at *
  have : (12 : Nat) < 2 ^ 101 := by decide +kernel
  omega
theorem fallI_small {n : Int} (h0 : 1 ≤ n) (hn : small 101 n) : ∀ m : Nat, m ≤ 12 → small (101 * m + 1) (fallI n m)
  | 0, _ => by show (1 : Int).natAbs < 2 ^ 1; decide
  | m + 1, h => ((fallI_small h0 hn m (by omega)).mul (sub101 h0 hn (by omega))).mono (by omega)
theorem fall_ok {n : Int} (h0 : 1 ≤ n) (hn : small 101 n) {m : Nat} (hm : m ≤ 12) : XOk 1300 (frac (fallR (1 / (n : Rat)) m)) := by
  have hz : n ≠ 0 := by omega
  rw [← fall_ints hz, ← fr_frac (Int.pow_ne_zero hz)]
  exact fr_ok (Int.pow_ne_zero hz) ((fallI_small h0 hn m hm).mono (by omega)) ((small.pow hn m).mono (by omega))
theorem ib_row {n b N : Nat} {r : Row} (h : r.1.length = n ∧ (∀ p ∈ r.1, 0 ≤ p ∧ p ≤ (b : Int)) ∧ small N r.2) (hb : b ≤ 40) (hN : N ≤ 200) : ib (rowD r) := by
  obtain ⟨_, h2, h3⟩ := h
  rw [rowD_e, ib_tup]
  intro d hd
  simp only [List.mem_cons, List.not_mem_nil, or_false] at hd
  rcases hd with rfl | rfl
  · rw [ib_tup]
    intro d hd
    obtain ⟨p, hp, rfl⟩ := List.mem_map.mp hd
    obtain ⟨h4, h5⟩ := h2 p hp
    rw [ib]
    exact Nat.lt_of_lt_of_le (m := 41) (by omega) (by decide)
  · rw [ib]; exact h3.mono hN
theorem ib_mean {n l b N : Nat} {m : List Row} (h : Bd n l b N m) (hb : b ≤ 40) (hN : N ≤ 200) : ib (mD m) := by
  unfold mD
  rw [ib_tup]
  intro d hd
  obtain ⟨r, hr, rfl⟩ := List.mem_map.mp hd
  exact ib_row (h.row r hr) hb hN
theorem eqOk_fr (x : Int × Int) : (frD x).eqOk = true := eqOk_pair _ _
theorem eqD_fr (x : Int × Int) : eqD (frD x) (frD x) = true := by
  show eqD (.tup [.int x.1, .int x.2]) (.tup [.int x.1, .int x.2]) = true
  rw [eqD_pair]; simp
theorem shows_f {x : Int × Int} {n : Nat} (h : XOk n x) (hn : n ≤ 12900) : showOk (frD x) := (shows_ok (k := 4300) h (by omega) (by decide) (by decide)).ok (by decide) (by decide)
end K50
end
section
set_option maxRecDepth 100000
set_option exponentiation.threshold 20000
/-! K50row: a row along a kind, added up at a size. -/
namespace K50
open PySem PySem.Spec PyProof.Rows L2 DL K49
def evT (n : Int) (row : List Int) : Nat → Int
  | 0 => 0
  | j + 1 => evT n row j + row.getD j 0 * n ^ j
theorem getD_set_self {row : List Int} {e : Nat} {v : Int} (h : e < row.length) : (row.set e v).getD e 0 = v := by
  rw [List.getD_eq_getElem?_getD, List.getElem?_set_self h]; rfl
theorem getD_set_ne {row : List Int} {e j : Nat} {v : Int} (h : j ≠ e) : (row.set e v).getD j 0 = row.getD j 0 := by
  rw [List.getD_eq_getElem?_getD, List.getElem?_set_ne (fun z => h z.symm), List.getD_eq_getElem?_getD]
theorem evT_set {n d : Int} {row : List Int} {e : Nat} (h : e < row.length) : ∀ L, evT n (row.set e (row.getD e 0 + d)) L = evT n row L + if e < L then d * n ^ e else 0
  | 0 => by simp [evT]
  | L + 1 => by
    show evT n (row.set e _) L + (row.set e _).getD L 0 * n ^ L = (evT n row L + row.getD L 0 * n ^ L) + _
    rw [evT_set h L]
    by_cases e1 : e < L
    · rw [if_pos e1, if_pos (by omega), getD_set_ne (by omega)]; omega
    · rw [if_neg e1]
      by_cases e2 : L = e
      · subst e2
        rw [if_pos (by omega), getD_set_self h, Int.add_mul]; omega
      · rw [if_neg (by omega), getD_set_ne e2]; omega
theorem pw_set {n : Int} : ∀ {k : Nat} {s q : List Int}, k < s.length → k < q.length → pw (s.set k n) q = pw (s.set k 1) q * n ^ (q.getD k 0).toNat
  | 0, x :: s, p :: q, _, _ => by
    show n ^ p.toNat * pw s q = (1 ^ p.toNat * pw s q) * n ^ ((p :: q).getD 0 0).toNat
    rw [Int.one_pow, Int.one_mul, Int.mul_comm]; rfl
  | k + 1, x :: s, p :: q, h1, h2 => by
    have ih := pw_set (n := n) (k := k) (s := s) (q := q) (by simpa using h1) (by simpa using h2)
    show x ^ p.toNat * pw (s.set k n) q = (x ^ p.toNat * pw (s.set k 1) q) * n ^ ((p :: q).getD (k + 1) 0).toNat
    rw [ih, Int.mul_assoc]; rfl
  | _, [], _, h, _ => by simp at h
  | _, _ :: _, [], _, h => by simp at h
theorem ev_rows {n : Int} {s g : List Int} {k : Nat} (hk : k < s.length) (hg : g.length = s.length) : ∀ {m : List Row} {row : List Int}, (∀ r ∈ m, Below g r.1) → row.length = (g.getD k 0).toNat + 1 →
    evT n (m.foldl (rowStep s g k) row) row.length = evT n row row.length + tot (s.set k n) g m
  | [], row, _, _ => by simp [tot]
  | r :: m, row, h, hl => by
    have hb := h r List.mem_cons_self
    have hrl : r.1.length = s.length := by rw [← hg, hb.1]
    have ih := ev_rows (n := n) hk hg (m := m) (row := rowStep s g k row r) (fun x hx => h x (List.mem_cons_of_mem _ hx)) (by rw [rowStep_len, hl])
    rw [rowStep_len] at ih
    rw [List.foldl_cons, ih, tot_cons]
    obtain ⟨hb3, hb4, hb5⟩ := hb.2 k (by omega)
    have hpk := psub_get (g := g) (k := r.1) (i := k) (by omega) (by omega)
    have hlt : ((psub g r.1).getD k 0).toNat < row.length := by rw [hl, hpk]; omega
    unfold rowStep
    rw [evT_set hlt, if_pos hlt, pw_set (n := n) hk (by rw [(Below.sub hb).1]; omega), Int.mul_assoc]
    omega
theorem evT_zero {n : Int} {t : Nat} : ∀ j, evT n (List.replicate t 0) j = 0
  | 0 => rfl
  | j + 1 => by
    show evT n _ j + (List.replicate t (0 : Int)).getD j 0 * n ^ j = 0
    rw [evT_zero j]
    have : (List.replicate t (0 : Int)).getD j 0 = 0 := by
      rw [List.getD_eq_getElem?_getD, List.getElem?_replicate]
      split <;> rfl
    rw [this]; simp
theorem mrow_len {s : List Int} {k : Nat} {m : List Row} : (mrow s k m).length = ((great s.length m).getD k 0).toNat + 1 := by
  unfold mrow; rw [rows_len2, List.length_replicate]
theorem ev_mrow {n : Int} {s : List Int} {k : Nat} {m : List Row} (hk : k < s.length) (h : ∀ r ∈ m, r.1.length = s.length ∧ ∀ p ∈ r.1, 0 ≤ p ∧ p ≤ 40) : evT n (mrow s k m) (mrow s k m).length = tot (s.set k n) (great s.length m) m := by
  have e := ev_rows (n := n) hk (great_len (n := s.length) (m := m)) (m := m) (row := List.replicate (((great s.length m).getD k 0).toNat + 1) 0) (great_below h) List.length_replicate
  rw [mrow_len]
  rw [List.length_replicate, evT_zero, Int.zero_add] at e
  exact e
theorem rows_small {s g : List Int} {k P : Nat} : ∀ {m : List Row} {row : List Int} {t : Nat}, (∀ r ∈ m, small P (r.2 * pw (s.set k 1) (psub g r.1))) → (∀ c ∈ row, c.natAbs ≤ t * 2 ^ P) → ∀ c ∈ m.foldl (rowStep s g k) row, c.natAbs ≤ (t + m.length) * 2 ^ P
  | [], row, t, _, h, c, hc => h c hc
  | r :: m, row, t, h1, h, c, hc => by
    have h2 := h1 r List.mem_cons_self
    have := rows_small (m := m) (row := rowStep s g k row r) (t := t + 1) (fun x hx => h1 x (List.mem_cons_of_mem _ hx)) (fun c hc => by
      unfold rowStep at hc
      rw [Nat.succ_mul]
      rcases List.mem_or_eq_of_mem_set hc with hc | rfl
      · exact Nat.le_trans (h c hc) (Nat.le_add_right _ _)
      · have h3 : (row.getD ((psub g r.1).getD k 0).toNat 0).natAbs ≤ t * 2 ^ P := by
          by_cases hl : ((psub g r.1).getD k 0).toNat < row.length
          · exact h _ (K49.getD_mem hl)
          · rw [List.getD_eq_getElem?_getD, List.getElem?_eq_none (by omega)]; simp
        unfold small at h2
        have h4 : (row.getD ((psub g r.1).getD k 0).toNat 0 + r.2 * pw (s.set k 1) (psub g r.1)).natAbs ≤ _ := Int.natAbs_add_le _ _
        generalize (row.getD ((psub g r.1).getD k 0).toNat 0 + r.2 * pw (s.set k 1) (psub g r.1)).natAbs = z1 at *
        generalize (row.getD ((psub g r.1).getD k 0).toNat 0).natAbs = z2 at *
        generalize (r.2 * pw (s.set k 1) (psub g r.1)).natAbs = z3 at *
        generalize t * 2 ^ P = z4 at *
        generalize 2 ^ P = z5 at *
        omega) c hc
    rw [show t + (r :: m).length = t + 1 + m.length by rw [List.length_cons]; omega]
    exact this
theorem mrow_small {s : List Int} {k : Nat} {m : List Row} (hm : m.length ≤ 6) (h : ∀ r ∈ m, small 12157 (r.2 * pw (s.set k 1) (psub (great s.length m) r.1))) : ∀ c ∈ mrow s k m, small 12160 c := fun c hc => by
  have := rows_small (t := 0) h (fun c hc => by rw [(List.mem_replicate.mp hc).2]; simp) c hc
  unfold small
  have e : (2 : Nat) ^ 12160 = 8 * 2 ^ 12157 := by rw [Nat.mul_comm, Nat.pow_succ, Nat.pow_succ, Nat.pow_succ]
  rw [e]
  have h1 : 0 < (2 : Nat) ^ 12157 := Nat.two_pow_pos _
  generalize (2 : Nat) ^ 12157 = z at *
  have := Nat.mul_le_mul_right z hm
  rw [Nat.zero_add] at *
  omega
theorem row_end {n : Int} {s : List Int} {k : Nat} {m : List Row} (hk : k < s.length) (hs : ∀ x ∈ s.set k n, 1 ≤ x) (h : ∀ r ∈ m, r.1.length = s.length ∧ ∀ p ∈ r.1, 0 ≤ p ∧ p ≤ 40) :
    fr (evT n (mrow s k m) (mrow s k m).length) (pw (s.set k 1) (great s.length m) * n ^ ((great s.length m).getD k 0).toNat) = frac (val (s.set k n) m) := by
  rw [ev_mrow hk h, ← pw_set hk (by rw [great_len]; exact hk), fr_frac (by have := pw_ne (k := great s.length m) hs; omega), tot_val hs (great_below h)]
end K50
end
section
set_option maxRecDepth 100000
set_option exponentiation.threshold 20000
/-! K50kind: the values that are asked about. -/
namespace K50
open PySem PySem.Spec PyProof.Rows L2 DL K49
theorem join_ge : ∀ {ts : List Str}, ts.length ≤ (Str.join ", " ts).length + 1
  | [] => Nat.zero_le _
  | [x] => by show 1 ≤ x.length + 1; omega
  | x :: y :: r => by
    have ih := join_ge (ts := y :: r)
    show _ ≤ (x ++ ", " ++ Str.join ", " (y :: r)).length + 1
    have e2 : ((", " : String) : Str).length = 2 := rfl
    rw [strLen_append, strLen_append, e2]
    simp only [List.length_cons] at ih ⊢
    omega
theorem tupleText_ge {ts : List Str} : ts.length ≤ (tupleText ts).length := by
  unfold tupleText
  have := join_ge (ts := ts)
  have e1 : ((("(" : String) : Str)).length = 1 := rfl
  rw [strLen_append, strLen_append, e1]
  omega
theorem shownAll_len : ∀ ds : List D, (PyData.shownAll (D.pxs ds)).length = ds.length
  | [] => by simp [D.pxs, PyData.shownAll]
  | d :: ds => by simp only [D.pxs, PyData.shownAll, List.length_cons, shownAll_len ds]
theorem Het.count {n j : Nat} {xs : List D} (h : Het n j (.tup xs)) : xs.length ≤ n := by
  have h1 := h.len
  simp only [D.px, PyData.shown] at h1
  have := tupleText_ge (ts := PyData.shownAll (D.pxs xs))
  rw [shownAll_len] at this
  omega
theorem het_row {n b N : Nat} {r : Row} (h : r.1.length = n ∧ (∀ p ∈ r.1, 0 ≤ p ∧ p ≤ (b : Int)) ∧ small N r.2) (hn : n ≤ 3) (hb : b ≤ 40) (hN : N ≤ 200) : Het 450 2 (rowD r) := by
  obtain ⟨h1, h2, h3⟩ := h
  have hk : Het 220 1 (kD r.1) := by
    refine (het_tup (n := 70) (j := 0) fun d hd => ?_).mono ?_ (Nat.le_refl _)
    · obtain ⟨p, hp, rfl⟩ := List.mem_map.mp hd
      obtain ⟨h4, h5⟩ := h2 p hp
      exact het_int (Nat.lt_of_lt_of_le (m := 41) (by omega) (by decide))
    · rw [List.length_map]; omega
  exact (het_tup (ds := [kD r.1, .int r.2]) (hets_cons hk (hets_cons ((het_int (h3.mono hN)).mono (by decide) (by decide)) hets_nil))).mono (by show 2 * (220 + 2) + 3 ≤ 450; decide) (by decide)
theorem pv_row {n b N : Nat} {r : Row} (h : r.1.length = n ∧ (∀ p ∈ r.1, 0 ≤ p ∧ p ≤ (b : Int)) ∧ small N r.2) (hn : n ≤ 3) (hb : b ≤ 40) (hN : N ≤ 100) : PV 2 (rowD r) := by
  obtain ⟨h1, h2, h3⟩ := h
  refine .inr ⟨_, rfl, by show 2 ≤ 6; decide, fun x hx => ?_⟩
  simp only [List.mem_cons, List.not_mem_nil, or_false] at hx
  rcases hx with rfl | rfl
  · refine .inr ⟨_, rfl, by rw [List.length_map]; omega, fun x hx => ?_⟩
    obtain ⟨p, hp, rfl⟩ := List.mem_map.mp hx
    obtain ⟨h4, h5⟩ := h2 p hp
    exact ⟨p, rfl, Nat.lt_of_lt_of_le (m := 41) (by omega) (by decide)⟩
  · exact .inl ⟨_, rfl, h3.mono hN⟩
theorem pv_mean {n b N l : Nat} {m : List Row} (h : Bd n l b N m) (hn : n ≤ 3) (hl : l ≤ 6) (hb : b ≤ 40) (hN : N ≤ 100) : PV 3 (mD m) := by
  refine .inr ⟨_, rfl, by rw [List.length_map]; have := h.len; omega, fun x hx => ?_⟩
  obtain ⟨r, hr, rfl⟩ := List.mem_map.mp hx
  exact pv_row (h.row r hr) hn hb hN
theorem pv_pair {a b : Int} (ha : small 100 a) (hb : small 100 b) : PV 3 (.tup [.int a, .int b]) := by
  refine .inr ⟨_, rfl, by show 2 ≤ 6; decide, fun x hx => ?_⟩
  simp only [List.mem_cons, List.not_mem_nil, or_false] at hx
  rcases hx with rfl | rfl
  · exact .inl ⟨_, rfl, ha⟩
  · exact .inl ⟨_, rfl, hb⟩
abbrev HV (d : D) : Prop := Het 5000000 50 d
theorem hv_of {n j : Nat} {d : D} (h : Het n j d) (hn : n ≤ 5000000) (hj : j ≤ 50) : HV d := h.mono hn hj
theorem hv_rows_tup {ds : List D} (h : ∀ d ∈ ds, Het 450 2 d) (hl : ds.length ≤ 12) : HV (.tup ds) := (het_tup h).mono (by have := Nat.mul_le_mul_right (450 + 2) hl; omega) (by decide)
theorem hv_rows_lst {ds : List D} (h : ∀ d ∈ ds, Het 450 2 d) (hl : ds.length ≤ 12) : HV (.lst ds) := (het_lst h).mono (by have := Nat.mul_le_mul_right (450 + 2) hl; omega) (by decide)
theorem hv_pair {a b : Int} (ha : small 200 a) (hb : small 200 b) : HV (.tup [.int a, .int b]) := (het_tup (ds := [.int a, .int b]) (hets_cons (het_int ha) (hets_cons (het_int hb) hets_nil))).mono (by show 2 * (70 + 2) + 3 ≤ 5000000; decide) (by decide)
theorem hv_cons {d : D} {ds : List D} (h : HV d) (h2 : ∀ x ∈ ds, HV x) : ∀ x ∈ d :: ds, HV x := hets_cons h h2
theorem hv_append {ds es : List D} (h : ∀ x ∈ ds, HV x) (h2 : ∀ x ∈ es, HV x) : ∀ x ∈ ds ++ es, HV x := hets_append h h2
theorem due_ok (a b c : Bool) : hetOk (.lst [.bl a, .bl b, .bl c]) :=
  ((het_lst (ds := [.bl a, .bl b, .bl c]) (hets_cons (het_bl a) (hets_cons (het_bl b) (hets_cons (het_bl c) hets_nil)))).mono (Nat.le_refl _) (Nat.le_refl _)).ok (by show 3 * (5 + 2) + 3 ≤ sizeLine; decide) (by decide)
def odd1 : List D := [.non, .bl true, .bl false, .int 0, .int 1, .int (-1), .int 3, .str (Str.ofString ""), .tup [],
  .tup [.int 0], .tup [.int 0, .int 1], .tup [.int 1, .int 0], .tup [.int 0, .int (-1)], .tup [.int 2, .int 4], .lst [], .dK [], .lst [.int 1], .tup [.tup [.int 0], .int 1]]
def odd2 : List D := [.tup [.tup [.tup [.int 0], .int 1]], .tup [.tup [.tup [.int 1], .int 0]], .tup [.tup [.tup [.bl true], .int 1]], .tup [.tup [.tup [.int 0, .int 0], .int 1]],
  .tup [.tup [.tup [.int (-1)], .int 2]], .int (10 ^ 40), .tup [.int (10 ^ 40), .int 7]]
theorem oi {n : Nat} {i : Int} (h : small 200 i) (hn : 70 ≤ n) (j : Nat) : Het n j (.int i) := (het_int h).mono hn (Nat.zero_le _)
theorem ot {n m j : Nat} {ds : List D} (h : ∀ d ∈ ds, Het n j d) (hl : ds.length ≤ 2) (hm : 2 * (n + 2) + 3 ≤ m) : Het m (j + 1) (.tup ds) := (het_tup h).mono (by have := Nat.mul_le_mul_right (n + 2) hl; omega) (Nat.le_refl _)
theorem s10 {i : Int} (h : i.natAbs ≤ 1000) : small 200 i := Nat.lt_of_le_of_lt h (by decide)
theorem s40 : small 200 (10 ^ 40) := by unfold small; decide +kernel
theorem o1 {a : Int} (h : a.natAbs ≤ 1000) : Het 150 1 (.tup [.int a]) := ot (n := 70) (hets_cons (oi (s10 h) (by decide) _) hets_nil) (by simp) (by decide)
theorem o2 {a b : Int} (h : small 200 a) (h2 : b.natAbs ≤ 1000) : Het 150 1 (.tup [.int a, .int b]) := ot (n := 70) (hets_cons (oi h (by decide) _) (hets_cons (oi (s10 h2) (by decide) _) hets_nil)) (by simp) (by decide)
theorem o3 {d : D} {b : Int} (h : Het 150 1 d) (h2 : b.natAbs ≤ 1000) : Het 400 2 (.tup [d, .int b]) := ot (n := 150) (hets_cons h (hets_cons (oi (s10 h2) (by decide) _) hets_nil)) (by simp) (by decide)
theorem o4 {d : D} {b : Int} (h : Het 150 1 d) (h2 : b.natAbs ≤ 1000) : Het 1000 10 (.tup [.tup [d, .int b]]) := (ot (n := 400) (m := 1000) (hets_cons (o3 h h2) hets_nil) (by simp) (by decide)).mono (by decide) (by decide)
theorem odd1_ok : ∀ d ∈ odd1, Het 1000 10 d :=
  have up : ∀ {n j : Nat} {d : D}, Het n j d → n ≤ 1000 → j ≤ 10 → Het 1000 10 d := fun h a b => h.mono a b
  have iu : ∀ {i : Int}, i.natAbs ≤ 1000 → Het 1000 10 (.int i) := fun h => oi (s10 h) (by decide) _
  have l0 : Het 1000 10 (.lst []) := (het_lst (n := 0) (j := 0) hets_nil).mono (by decide) (by decide)
  have t0 : Het 1000 10 (.tup []) := (het_tup (n := 0) (j := 0) hets_nil).mono (by decide) (by decide)
  have l1 : Het 1000 10 (.lst [.int 1]) := (het_lst (n := 70) (j := 0) (hets_cons (oi (s10 (by decide)) (by decide) _) hets_nil)).mono (by decide) (by decide)
  hets_cons (up het_non (by decide) (by decide)) <| hets_cons (up (het_bl _) (by decide) (by decide)) <| hets_cons (up (het_bl _) (by decide) (by decide)) <|
  hets_cons (iu (by decide)) <| hets_cons (iu (by decide)) <| hets_cons (iu (by decide)) <| hets_cons (iu (by decide)) <|
  hets_cons ((het_str (n := 10) (Str.ofString "") (by decide)).mono (by decide) (by decide)) <| hets_cons t0 <| hets_cons (up (o1 (by decide)) (by decide) (by decide)) <|
  hets_cons (up (o2 (s10 (by decide)) (by decide)) (by decide) (by decide)) <| hets_cons (up (o2 (s10 (by decide)) (by decide)) (by decide) (by decide)) <|
  hets_cons (up (o2 (s10 (by decide)) (by decide)) (by decide) (by decide)) <| hets_cons (up (o2 (s10 (by decide)) (by decide)) (by decide) (by decide)) <|
  hets_cons l0 <| hets_cons (up het_dK (by decide) (by decide)) <| hets_cons l1 <| hets_cons (up (o3 (o1 (by decide)) (by decide)) (by decide) (by decide)) hets_nil
theorem odd2_ok : ∀ d ∈ odd2, Het 1000 10 d :=
  have bt : Het 150 1 (.tup [.bl true]) := ot (n := 70) (hets_cons ((het_bl _).mono (by decide) (by decide)) hets_nil) (by decide) (by decide)
  hets_cons (o4 (o1 (by decide)) (by decide)) <| hets_cons (o4 (o1 (by decide)) (by decide)) <| hets_cons (o4 bt (by decide)) <| hets_cons (o4 (o2 (s10 (by decide)) (by decide)) (by decide)) <|
  hets_cons (o4 (o1 (by decide)) (by decide)) <| hets_cons (oi s40 (by decide) _) <| hets_cons ((o2 s40 (by decide)).mono (by decide) (by decide)) hets_nil
theorem odd_ok : odd1 ++ odd2 ≠ [] ∧ (odd1 ++ odd2).length ≤ 30 ∧ ∀ x ∈ odd1 ++ odd2, Het 1000 10 x := ⟨by simp [odd1], by decide, hets_append odd1_ok odd2_ok⟩
end K50
end
section
set_option maxRecDepth 100000
set_option maxHeartbeats 4000000
set_option pp.maxSteps 300
set_option pp.deepTerms.threshold 200
set_option exponentiation.threshold 20000
namespace K50
open DL in
theorem seq_hide {r1 r2 : RS} {Dd : DEnds} {ρ : En} (h : ∀ K : En → Prop, (∀ ρ', r2 Dd ρ' → K ρ') → r1 { Dd with nx := K } ρ) : rSeq r1 r2 Dd ρ := h _ fun _ h => h
open PySem PySem.Spec L2 DL K49
def topS (i : Nat) : Stmt := PySem.Challenge.pw_drawntables_k50_falling_products_and_row.main.body.getD i (.Pass ⟨0, 0, 0, 0⟩)
structure Txt (mg : Str → Option Value) : Prop where
  range : mg "range" = none
  abs : mg "abs" = none
  int : mg "int" = none
  len : mg "len" = none
  tuple : mg "tuple" = none
  repr : mg "repr" = none
  sorted : mg "sorted" = none
  max : mg "max" = none
  list : mg "list" = none
  zip : mg "zip" = none
  enumerate : mg "enumerate" = none
  isinstance : mg "isinstance" = none
  bool : mg "bool" = none
  all : mg "all" = none
  dict : mg "dict" = none
  gcd : mg "gcd" = some (.builtin "math.gcd")

local macro_rules | `(tactic| nested_key) => `(tactic| simp only [rSeq, rSet, rC, rV, rB, rOp, rUn, rIf, rTest, dB, rRet, rTup, rLst, raNil, raCons, rCl, rCall, rCallS, rPar, rIfS, rNx, rDrop, rAsg, rgName, rgTup, rgCons, rgNil, rAnd, rOr, rAndV, rOrV, rSetO, rApp, rRetO, rImm,
  rPut, rExt, rMelt, rGet, DL.rSorted, rSortIt, rMaxD, rgSeq, riS, dS, dL, dT, dDN, rImmL, riItems, riZ2, riZ3, riE, riR1, riR2, rLstS, rTupS, rIsD, cAll, cSum, oLtU, oMulU, rRepF, rRevU, rO0, rO1, rSlD, rLR1, rLR2, cReprX, oNeE, oEqE, rDictP, rLenF, rPar2O, raStar, rRev, rListOf, rAddF, rPar3O, rSrcI, rSrcP, rDrain, rMixed, rFor, rLc, rYes, wipeE,
  oI, oIC, uI, cI1, cInt, cLen, cTuple, cGcd, cMax, cRepr, oIx, oIxA, oMul, oAdd, oCatT, oCatL, oEq, oNe, oEqS, oNeS, atI_0, atI_1, atI_2, List.map_cons, List.map_nil, List.length_cons, List.length_nil, List.replicate_succ, List.replicate_zero, List.cons_append, List.nil_append, List.getElem?_cons_succ, List.getElem?_cons_zero, List.set_cons_succ, List.set_cons_zero, Nat.reduceSub, Nat.reduceAdd,
  decide_eq_true_eq, Bool.not_eq_true, if_true, if_false])
section
variable {P : Program} {w : World} {K : PySem.W.Frag} {mg : Str → Option Value} {base : Heap}
abbrev F__law_pick := FPick
abbrev F__law_of := FOf
def F_number_power : DSp := fun ds Q => match ds with
  | [.int a, .int k] => (small 500 a ∧ 0 ≤ k ∧ k ≤ 1000) ∧ Q (.int (a ^ k.toNat))
  | _ => False
def F__law_power := F_number_power
def F_fraction_of : DSp := fun ds Q => match ds with
  | [.int p, .int q] => (q ≠ 0 ∧ small 13400 p ∧ small 13400 q) ∧ Q (frD (fr p q))
  | _ => False
def F__law_fraction := F_fraction_of
def F2 (g : Int × Int → Int × Int → Int × Int) (c : Int × Int → Int × Int → Prop) : DSp := fun ds Q => match ds with
  | [.tup [.int p, .int q], .tup [.int r, .int s]] => (small 6600 p ∧ small 6600 q ∧ small 6600 r ∧ small 6600 s ∧ c (p, q) (r, s)) ∧ Q (frD (g (p, q) (r, s)))
  | _ => False
def ne22 (x y : Int × Int) : Prop := x.2 * y.2 ≠ 0
def F__law_by := F2 times ne22
def F_mean_of_rows : DSp := fun ds Q => match ds with
  | [.lst xs] => ∃ m : List Row, xs = m.map rowD ∧ m.length ≤ 10000 ∧ Q (mD (canon m))
  | [.tup xs] => ∃ m : List Row, xs = m.map rowD ∧ m.length ≤ 10000 ∧ Q (mD (canon m))
  | _ => False
def F_greatest_powers : DSp := fun ds Q => match ds with
  | [x, y] => ∃ (n : Nat) (m : List Row), x = .int n ∧ y = mD m ∧ n ≤ 10 ∧ m.length ≤ 1000 ∧ (∀ r ∈ m, r.1.length = n ∧ ∀ p ∈ r.1, 0 ≤ p) ∧ Q (kD (great n m))
  | _ => False
def F_size_product : DSp := fun ds Q => match ds with
  | [x, y] => ∃ a b : List Int, (x = kD a ∨ x = .lst (a.map D.int)) ∧ (y = kD b ∨ y = .lst (b.map D.int)) ∧ a.length = b.length ∧ a.length ≤ 3 ∧ (∀ s ∈ a, small 101 s) ∧ (∀ p ∈ b, 0 ≤ p ∧ p ≤ 40) ∧ Q (.int (pw a b))
  | _ => False
def F_mean_at : DSp := fun ds Q => match ds with
  | [x, y] => ∃ (m : List Row) (s : List Int), x = mD m ∧ y = kD s ∧ SOk s ∧ MOk s.length m ∧ Q (frD (frac (val s m)))
  | _ => False
def F__law_drawn_mean : DSp := fun ds Q => match ds with
  | [x, y, z] => ∃ n b c6 : Nat, x = .int n ∧ y = .int b ∧ z = .int c6 ∧ c6 ≤ 6 ∧ 1 ≤ n ∧ n ≤ 3 ∧ b ≤ 20 ∧ ∀ m, Drawn n b m → Q (mD m)
  | _ => False
def F__law_mean_at := F_mean_at
def F_is_integer : DSp := fun ds Q => match ds with
  | [d] => d.noN = true ∧ Q (.bl (isI d))
  | _ => False
def F__law_is_int := F_is_integer
def F_is_fraction : DSp := fun ds Q => match ds with
  | [d] => ib d ∧ Q (.bl (isFB d))
  | _ => False
def F__law_is_fraction := F_is_fraction
def FP (g : Int → D → Bool) : DSp := fun ds Q => match ds with
  | [x, d] => ∃ n : Int, x = .int n ∧ ib d ∧ Q (.bl (g n d))
  | _ => False
def F_are_powers := FP isP
def F_is_member := FP isMem
def F_is_mean : DSp := fun ds Q => match ds with
  | [x, d] => ∃ n : Int, x = .int n ∧ ib d ∧ (∀ xs, d = .tup xs → xs.length ≤ 10000000) ∧ Q (.bl (isMeanB n d))
  | _ => False
def F__law_is_mean := F_is_mean
def F__law_each_behind : DSp := fun ds Q => match ds with
  | [x, y] => ∃ (rs : List (List Int)) (ss : List Int), x = .lst (rs.map kD) ∧ y = .lst (ss.map D.int) ∧ rs.length ≤ 1000 ∧ ss.length ≤ 10 ∧ (∀ r ∈ rs, r.length ≤ 100) ∧ Q (.lst ((behind rs ss).map kD))
  | _ => False
def F__law_rows_unlike : DSp := fun ds Q => match ds with
  | [x, y] => ∃ n m : Nat, x = .int n ∧ y = .int m ∧ n ≤ 3 ∧ m ≤ 4 ∧ Q (.tup [.int (unl n m : Nat), .int ((n ^ m : Nat) : Int)])
  | _ => False
def F_falling : DSp := fun ds Q => match ds with
  | [x, y, z] => ∃ n k m : Nat, x = .int n ∧ y = .int k ∧ z = .int m ∧ n ≤ 3 ∧ k < n ∧ m ≤ 12 ∧ Q (mD (canon (fallRows n k m)))
  | _ => False
def F_mean_row : DSp := fun ds Q => match ds with
  | [x, y, z] => ∃ (m : List Row) (s : List Int) (k : Nat), x = mD m ∧ y = .int k ∧ z = kD s ∧ SOk s ∧ MOk s.length m ∧ k < s.length ∧ Q (.tup [kD (mrow s k m), .int ((great s.length m).getD k 0), .int (pw (s.set k 1) (great s.length m))])
  | _ => False
def FR__law_bent : Nat → DSp
  | 0 => fun _ _ => False
  | n + 1 => fun ds Q => match ds with
    | [v, o] => ∃ os : List D, n ≤ 50 ∧ o = .lst os ∧ PV n v ∧ (os ≠ [] ∧ os.length ≤ 1000 ∧ ∀ x ∈ os, Het 1000 10 x) ∧ ∀ d, Het (HB n) (10 + n) d → Q d
    | _ => False
def F__law_bent := FR__law_bent 4
def FT : DSp := fun ds Q => match ds with
  | [] => Q (.bl true)
  | _ => False
def F__law_falling_right := FT
def F__law_row_right := FT
def F__law_kinds_right : DSp := fun ds Q => match ds with
  | [o] => ∃ os : List D, o = .lst os ∧ (os ≠ [] ∧ os.length ≤ 30 ∧ ∀ x ∈ os, Het 1000 10 x) ∧ Q (.bl true)
  | _ => False
abbrev s_is_integer : Stmt := topS 2
theorem sc_is_integer : FnScope ["value"] ["value"] (defScope s_is_integer) := ⟨rfl, rfl, rfl, by decide +kernel, rfl, by decide +kernel, by decide +kernel⟩
theorem ok_is_integer {f : Addr} {fd : FuncData} (T : Txt mg) (F : Fun K "is_integer" "is_integer" s_is_integer f fd) (gm : mg "is_integer" = some (.ref f)) (nd : base.NoDigits)  : Df P w K mg base "is_integer" 1 (spD ⟨K, w⟩ 1 F_is_integer) := by
  refine fn_D F gm sc_is_integer rfl (fun _ _ _ _ _ _ us hl => match us, hl with | [_], _ => rfl) fun cdv A outer s H E hr => ?_
  refine ⟨_, (s_one (s_ret (e_and (k_isi (b := true) (b' := true) ⟨K, w⟩ is_int (e_v 0) T.isinstance T.int (by rfl)) (e_one (e_not (k_isi (b := true) (b' := true) ⟨K, w⟩ is_bool (e_v 0) T.isinstance T.bool (by rfl))))))), fun ds R hl hF => ?_⟩
  match ds, hl, hF with
  | [d], _, h =>
    nested_key
    refine ⟨h.1, ?_⟩
    have e := isI_eq d
    by_cases hi : isIntB d = true
    · rw [if_pos hi] at e ⊢
      exact ⟨h.1, by rw [e]; exact h.2⟩
    · rw [if_neg hi] at e ⊢
      rw [e]
      exact h.2

abbrev s_number_power : Stmt := topS 3
theorem sc_number_power : FnScope ["a", "k", "found", "turn"] ["a", "k"] (defScope s_number_power) := ⟨rfl, rfl, rfl, by decide +kernel, rfl, by decide +kernel, by decide +kernel⟩
theorem ok_number_power {f : Addr} {fd : FuncData} (T : Txt mg) (F : Fun K "number_power" "number_power" s_number_power f fd) (gm : mg "number_power" = some (.ref f)) (nd : base.NoDigits)  : Df P w K mg base "number_power" 1 (spD ⟨K, w⟩ 2 F_number_power) := by
  refine fn_D F gm sc_number_power rfl (fun _ _ _ _ _ _ us hl => match us, hl with | [_, _], _ => rfl) fun cdv A outer s H E hr => ?_
  refine ⟨_, (s_cons (s_set 2 sc_number_power.nd e_int)
      (s_cons (s_for PassesOwn.never rfl (i_range1 (b := true) T.range (a_cons (e_v 1) a_nil)) (g_name 3 sc_number_power.nd) (s_one (s_set 2 sc_number_power.nd (e_op (kMul ⟨K, w⟩) d_mulA (e_v 2) (e_v 0)))))
      (s_one (s_ret (e_v 2))))), fun ds R hl hF => ?_⟩
  match ds, hl, hF with
  | [.int a, .int k], _, ⟨⟨hm, h1, h2⟩, q⟩ =>
    nested_key
    refine ⟨⟨by omega, by omega⟩, fun i ρ => i ≤ k.toNat ∧ ∃ y, ρ = [.val (.int a), .val (.int k), .val (.int (a ^ i)), y], ⟨Nat.zero_le _, .emp, by rw [Int.pow_zero]⟩, fun i ρ d hd h => ?_, fun ρ h => ?_⟩
    · obtain ⟨hi, y, rfl⟩ := h
      have hi' : i < k.toNat := by
        have := (List.getElem?_eq_some_iff.mp hd).1
        simpa [rangeD] using this
      nested_key
      exact ⟨mulW (hm.pow i) hm (by have : 500 * i ≤ 500 * 1000 := Nat.mul_le_mul_left _ (by omega); omega), hi', _, by rw [Int.pow_succ]⟩
    · obtain ⟨hi, y, rfl⟩ := h
      have e : (rangeD 0 k.toNat).length = k.toNat := by simp [rangeD]
      nested_key
      rw [e]
      exact q

abbrev s_fraction_of : Stmt := topS 4
theorem sc_fraction_of : FnScope ["p", "q", "by"] ["p", "q"] (defScope s_fraction_of) := ⟨rfl, rfl, rfl, by decide +kernel, rfl, by decide +kernel, by decide +kernel⟩
theorem ok_fraction_of {f : Addr} {fd : FuncData} (T : Txt mg) (F : Fun K "fraction_of" "fraction_of" s_fraction_of f fd) (gm : mg "fraction_of" = some (.ref f)) (nd : base.NoDigits)  : Df P w K mg base "fraction_of" 1 (spD ⟨K, w⟩ 2 F_fraction_of) := by
  refine fn_D F gm sc_fraction_of rfl (fun _ _ _ _ _ _ us hl => match us, hl with | [_, _], _ => rfl) fun cdv A outer s H E hr => ?_
  refine ⟨_, (s_cons (s_set 2 sc_fraction_of.nd (e_if (t_cmp (b := true) op_gt d_gt (e_v 1) e_int (nomark _)) (e_gcd T.gcd (a_cons (e_v 0) (a_cons (e_v 1) a_nil))) (e_un un_neg d_neg (e_gcd T.gcd (a_cons (e_v 0) (a_cons (e_v 1) a_nil))))))
      (s_one (s_ret (e_tup (a_cons (e_op op_fd d_fd (e_v 0) (e_v 2)) (a_cons (e_op op_fd d_fd (e_v 1) (e_v 2)) a_nil)))))), fun ds R hl hF => ?_⟩
  match ds, hl, hF with
  | [.int p, .int q], _, ⟨⟨hq, h1, h2⟩, k⟩ =>
    nested_key
    have hg := frG_ne (p := p) hq
    unfold frD fr at k
    unfold frG at k hg
    by_cases h : q > 0
    · rw [if_pos h] at k hg ⊢
      exact ⟨cfd (a := 0) hg h1, cfd (a := 0) hg h2, k⟩
    · rw [if_neg h] at k hg ⊢
      exact ⟨cfd (a := 0) hg h1, cfd (a := 0) hg h2, k⟩

abbrev s_is_fraction : Stmt := topS 5
theorem sc_is_fraction : FnScope ["value", "x"] ["value"] (defScope s_is_fraction) := ⟨rfl, rfl, rfl, by decide +kernel, rfl, by decide +kernel, by decide +kernel⟩
theorem ok_is_fraction {f : Addr} {fd : FuncData} (T : Txt mg) (F : Fun K "is_fraction" "is_fraction" s_is_fraction f fd) (gm : mg "is_fraction" = some (.ref f)) (nd : base.NoDigits) (G_is_integer : Df P w K mg base "is_integer" 1 (spD ⟨K, w⟩ 1 F_is_integer)) : Df P w K mg base "is_fraction" 2 (spD ⟨K, w⟩ 1 F_is_fraction) := by
  refine fn_D F gm sc_is_fraction rfl (fun _ _ _ _ _ _ us hl => match us, hl with | [_], _ => rfl) fun cdv A outer s H E hr => ?_
  refine ⟨_, (s_cons (s_if (DW.t (w_or (t_not (t_val (b := true) (k_isi (b := true) (b' := true) ⟨K, w⟩ is_tuple (e_v 0) T.isinstance T.tuple (by rfl)))) (w_or (t_cmp (b := true) (kNe ⟨K, w⟩ hr.u64) d_neD (e_bi (kLen ⟨K, w⟩) d_len (by rfl) T.len (by decide +kernel) (a_cons (e_v 0) a_nil)) e_int (nomark _)) (w_or1 (t_not (t_val (b := true) (e_bi (kAll ⟨K, w⟩ rfl) d_all (by rfl) T.all (by decide +kernel) (a_cons (DF.de (e_lc [("x", 1)] rfl sc_is_fraction.nd (ki_seq ⟨K, w⟩ (e_v 0)) (blkOk_by (own := [("x", 1)]) rfl) (fun _ _ _ _ _ => (g_name 1 sc_is_fraction.nd)) (fun _ _ _ _ _ => (k_call (G_is_integer.up (by decide)) hr (a_cons (e_v 1) a_nil))))) a_nil)))))))) (s_one (s_ret e_bl)) s_nil)
      (s_one (s_ret (e_and (e_cmp op_gt d_gt (e_ix (kIxU ⟨K, w⟩) d_ixU (e_v 0) e_int (fun _ _ => rfl)) e_int (nomark _)) (e_one (e_cmp (kEq ⟨K, w⟩ hr.u64) d_eqD (e_gcd T.gcd (a_cons (e_ix (kIxU ⟨K, w⟩) d_ixU (e_v 0) e_int (fun _ _ => rfl)) (a_cons (e_ix (kIxU ⟨K, w⟩) d_ixU (e_v 0) e_int (fun _ _ => rfl)) a_nil))) e_int (nomark _))))))), fun ds R hl hF => ?_⟩
  match ds, hl, hF with
  | [d], _, h =>
    obtain ⟨hb, q⟩ := h
    nested_key
    refine ⟨ib_noN hb, ?_⟩
    cases d with
    | tup xs =>
      rw [if_neg (by simp [isTupB])]
      refine ⟨⟨rfl, rfl⟩, ?_⟩
      rw [eqD_int]
      by_cases h2 : (xs.length : Int) = 2
      · rw [if_neg (by simp [h2])]
        obtain ⟨a, b, rfl⟩ := two_of (xs := xs) (by omega)
        nested_key
        refine ⟨fun k acc => acc = ([a, b].take k).map fun d => D.bl (isI d), rfl, fun k acc d hd h => ?_, fun acc h => ?_⟩
        · subst h
          refine ⟨ib_noN (ib_mem hb (List.mem_of_getElem? hd)), ?_⟩
          dsimp only
          rw [take_map hd]
        · subst h
          refine ⟨[isI a, isI b], rfl, ?_⟩
          by_cases ha : isI a = true
          · by_cases hb2 : isI b = true
            · obtain ⟨p, rfl⟩ := isI_form ha
              obtain ⟨t, rfl⟩ := isI_form hb2
              rw [if_neg (by simp [isI])]
              nested_key
              have q' : R (D.bl (decide (0 < t) && decide (Int.gcd p t = 1))) := q
              by_cases ht : (0 : Int) < t
              · rw [if_pos ht]
                refine ⟨⟨rfl, rfl⟩, ?_⟩
                rw [eqD_int]
                rw [decide_eq_true ht, Bool.true_and] at q'
                have e : decide (((Nat.gcd p.natAbs t.natAbs : Nat) : Int) = 1) = decide (Int.gcd p t = 1) := by
                  show decide (((Int.gcd p t : Nat) : Int) = 1) = _
                  rw [decide_eq_decide]; omega
                rw [e]; exact q'
              · rw [if_neg ht]
                rw [decide_eq_false ht, Bool.false_and] at q'
                exact q'
            · rw [if_pos (by simp [hb2])]
              have : isFB (.tup [a, b]) = false := by cases a <;> cases b <;> first | rfl | exact absurd rfl hb2
              rw [this] at q; exact q
          · rw [if_pos (by simp [ha])]
            have : isFB (.tup [a, b]) = false := by cases a <;> first | rfl | exact absurd rfl ha
            rw [this] at q; exact q
      · rw [if_pos (by simp [h2])]
        have : isFB (.tup xs) = false := by
          unfold isFB
          split
          · rename_i e; injection e with e; rw [e] at h2; exact absurd rfl h2
          · rfl
        rw [this] at q; exact q
    | _ =>
      rw [if_pos (by simp [isTupB])]
      exact q

abbrev s_are_powers : Stmt := topS 7
theorem sc_are_powers : FnScope ["kinds", "value", "p"] ["kinds", "value"] (defScope s_are_powers) := ⟨rfl, rfl, rfl, by decide +kernel, rfl, by decide +kernel, by decide +kernel⟩
theorem ok_are_powers {f : Addr} {fd : FuncData} (T : Txt mg) (F : Fun K "are_powers" "are_powers" s_are_powers f fd) (gm : mg "are_powers" = some (.ref f)) (nd : base.NoDigits) (G_is_integer : Df P w K mg base "is_integer" 1 (spD ⟨K, w⟩ 1 F_is_integer)) : Df P w K mg base "are_powers" 2 (spD ⟨K, w⟩ 2 F_are_powers) := by
  refine fn_D F gm sc_are_powers rfl (fun _ _ _ _ _ _ us hl => match us, hl with | [_, _], _ => rfl) fun cdv A outer s H E hr => ?_
  refine ⟨_, (s_one (s_ret (e_and (k_isi (b := true) (b' := true) ⟨K, w⟩ is_tuple (e_v 1) T.isinstance T.tuple (by rfl)) (e_and (e_cmp (kEq ⟨K, w⟩ hr.u64) d_eqD (e_bi (kLen ⟨K, w⟩) d_len (by rfl) T.len (by decide +kernel) (a_cons (e_v 1) a_nil)) (e_v 0) (nomark _)) (e_one (e_bi (kAll ⟨K, w⟩ rfl) d_all (by rfl) T.all (by decide +kernel) (a_cons (DF.de (e_lc [("p", 2)] rfl sc_are_powers.nd (ki_seq ⟨K, w⟩ (e_v 1)) (blkOk_by (own := [("p", 2)]) rfl) (fun _ _ _ _ _ => (g_name 2 sc_are_powers.nd)) (fun _ _ _ _ _ => (e_and (k_call (G_is_integer.up (by decide)) hr (a_cons (e_v 2) a_nil)) (e_one (e_cmp op_ge d_ge (e_v 2) e_int (nomark _))))))) a_nil))))))), fun ds R hl hF => ?_⟩
  match ds, hl, hF with
  | [x, d], _, h =>
    obtain ⟨n, rfl, hb, q⟩ := h
    nested_key
    refine ⟨ib_noN hb, ?_⟩
    cases d with
    | tup xs =>
      rw [if_pos (by simp [isTupB])]
      nested_key
      refine ⟨⟨rfl, rfl⟩, ?_⟩
      rw [eqD_int]
      have q' : R (D.bl (decide ((xs.length : Int) = n) && xs.all isPw)) := q
      by_cases h2 : (xs.length : Int) = n
      · rw [if_pos (by simp [h2])]
        rw [decide_eq_true h2, Bool.true_and] at q'
        refine ⟨fun k acc => acc = (xs.take k).map fun d => D.bl (isPw d), rfl, fun k acc d hd h => ?_, fun acc h => ?_⟩
        · subst h
          refine ⟨ib_noN (ib_mem hb (List.mem_of_getElem? hd)), ?_⟩
          show dB _ (.bl (isI d))
          have ht := take_map (f := fun d => D.bl (isPw d)) hd
          cases d <;> exact ht.symm
        · subst h
          rw [List.take_length]
          exact ⟨xs.map isPw, bls_map isPw xs, by rw [all_map]; exact q'⟩
      · rw [if_neg (by simp [h2])]
        rw [decide_eq_false h2, Bool.false_and] at q'
        exact q'
    | _ =>
      rw [if_neg (by simp [isTupB])]
      exact q

abbrev s_is_member : Stmt := topS 8
theorem sc_is_member : FnScope ["kinds", "value"] ["kinds", "value"] (defScope s_is_member) := ⟨rfl, rfl, rfl, by decide +kernel, rfl, by decide +kernel, by decide +kernel⟩
theorem ok_is_member {f : Addr} {fd : FuncData} (T : Txt mg) (F : Fun K "is_member" "is_member" s_is_member f fd) (gm : mg "is_member" = some (.ref f)) (nd : base.NoDigits) (G_is_integer : Df P w K mg base "is_integer" 1 (spD ⟨K, w⟩ 1 F_is_integer)) (G_are_powers : Df P w K mg base "are_powers" 2 (spD ⟨K, w⟩ 2 F_are_powers)) : Df P w K mg base "is_member" 3 (spD ⟨K, w⟩ 2 F_is_member) := by
  refine fn_D F gm sc_is_member rfl (fun _ _ _ _ _ _ us hl => match us, hl with | [_, _], _ => rfl) fun cdv A outer s H E hr => ?_
  refine ⟨_, (s_cons (s_if (DW.t (w_or (t_not (t_val (b := true) (k_isi (b := true) (b' := true) ⟨K, w⟩ is_tuple (e_v 1) T.isinstance T.tuple (by rfl)))) (w_or (t_cmp (b := true) (kNe ⟨K, w⟩ hr.u64) d_neD (e_bi (kLen ⟨K, w⟩) d_len (by rfl) T.len (by decide +kernel) (a_cons (e_v 1) a_nil)) e_int (nomark _)) (w_or1 (t_not (t_val (b := true) (k_call (G_are_powers.up (by decide)) hr (a_cons (e_v 0) (a_cons (e_ix (kIxU ⟨K, w⟩) d_ixU (e_v 1) e_int (fun _ _ => rfl)) a_nil))))))))) (s_one (s_ret e_bl)) s_nil)
      (s_one (s_ret (e_and (k_call (G_is_integer.up (by decide)) hr (a_cons (e_ix (kIxU ⟨K, w⟩) d_ixU (e_v 1) e_int (fun _ _ => rfl)) a_nil)) (e_one (e_cmp (kNe ⟨K, w⟩ hr.u64) d_neD (e_ix (kIxU ⟨K, w⟩) d_ixU (e_v 1) e_int (fun _ _ => rfl)) e_int (nomark _))))))), fun ds R hl hF => ?_⟩
  match ds, hl, hF with
  | [x, d], _, h =>
    obtain ⟨n, rfl, hb, q⟩ := h
    nested_key
    refine ⟨ib_noN hb, ?_⟩
    cases d with
    | tup xs =>
      rw [if_neg (by simp [isTupB])]
      refine ⟨⟨rfl, rfl⟩, ?_⟩
      rw [eqD_int]
      by_cases h2 : (xs.length : Int) = 2
      · rw [if_neg (by simp [h2])]
        obtain ⟨a, b, rfl⟩ := two_of (xs := xs) (by omega)
        nested_key
        have q' : R (D.bl (isP n a && isNz b)) := q
        refine ⟨n, rfl, ib_mem hb (by simp), ?_⟩
        show (if (!isP n a) = true then R (D.bl false) else _)
        by_cases ha : isP n a = true
        · rw [if_neg (by simp [ha])]
          rw [ha, Bool.true_and] at q'
          refine ⟨ib_noN (ib_mem hb (by simp)), ?_⟩
          show (if isI b = true then _ else _)
          cases b with
          | int c =>
            rw [if_pos (by simp [isI])]
            refine ⟨⟨rfl, rfl⟩, ?_⟩
            rw [eqD_int]; exact q'
          | _ =>
            rw [if_neg (by simp [isI])]
            exact q'
        · rw [if_pos (by simp [ha])]
          rw [Bool.eq_false_iff.mpr ha, Bool.false_and] at q'
          exact q'
      · rw [if_pos (by simp [h2])]
        have : isMem n (.tup xs) = false := by
          unfold isMem
          split
          · rename_i e; injection e with e; rw [e] at h2; exact absurd rfl h2
          · rfl
        rw [this] at q; exact q
    | _ =>
      rw [if_pos (by simp [isTupB])]
      exact q

abbrev s_is_mean : Stmt := topS 9
theorem sc_is_mean : FnScope ["kinds", "value", "i", "member"] ["kinds", "value"] (defScope s_is_mean) := ⟨rfl, rfl, rfl, by decide +kernel, rfl, by decide +kernel, by decide +kernel⟩
theorem ok_is_mean {f : Addr} {fd : FuncData} (T : Txt mg) (F : Fun K "is_mean" "is_mean" s_is_mean f fd) (gm : mg "is_mean" = some (.ref f)) (nd : base.NoDigits) (G_is_member : Df P w K mg base "is_member" 3 (spD ⟨K, w⟩ 2 F_is_member)) : Df P w K mg base "is_mean" 4 (spD ⟨K, w⟩ 2 F_is_mean) := by
  refine fn_D F gm sc_is_mean rfl (fun _ _ _ _ _ _ us hl => match us, hl with | [_, _], _ => rfl) fun cdv A outer s H E hr => ?_
  refine ⟨_, (s_cons (s_if (DW.t (w_or (t_not (t_val (b := true) (k_isi (b := true) (b' := true) ⟨K, w⟩ is_tuple (e_v 1) T.isinstance T.tuple (by rfl)))) (w_or1 (t_not (t_val (b := true) (e_bi (kAll ⟨K, w⟩ rfl) d_all (by rfl) T.all (by decide +kernel) (a_cons (DF.de (e_lc [("member", 3)] rfl sc_is_mean.nd (ki_seq ⟨K, w⟩ (e_v 1)) (blkOk_by (own := [("member", 3)]) rfl) (fun _ _ _ _ _ => (g_name 3 sc_is_mean.nd)) (fun _ _ _ _ _ => (k_call (G_is_member.up (by decide)) hr (a_cons (e_v 0) (a_cons (e_v 3) a_nil)))))) a_nil))))))) (s_one (s_ret e_bl)) s_nil)
      (s_one (s_ret (e_bi (kAll ⟨K, w⟩ rfl) d_all (by rfl) T.all (by decide +kernel) (a_cons (DF.de (e_lc [("i", 2)] rfl sc_is_mean.nd (i_range1 (b := true) T.range (a_cons (e_op op_sub d_sub (e_bi (kLen ⟨K, w⟩) d_len (by rfl) T.len (by decide +kernel) (a_cons (e_v 1) a_nil)) e_int) a_nil)) (blkOk_by (own := [("i", 2)]) rfl) (fun _ _ _ _ _ => (g_name 2 sc_is_mean.nd)) (fun _ _ _ _ _ => (e_cmp (kLt ⟨K, w⟩ hr.u0) d_ltU (e_ix (kIxU ⟨K, w⟩) d_ixU (e_ix (kIxU ⟨K, w⟩) d_ixU (e_v 1) (e_v 2) (fun _ _ => rfl)) e_int (fun _ _ => rfl)) (e_ix (kIxU ⟨K, w⟩) d_ixU (e_ix (kIxU ⟨K, w⟩) d_ixU (e_v 1) (e_op (kAdd ⟨K, w⟩) d_addU (e_v 2) e_int) (fun _ _ => rfl)) e_int (fun _ _ => rfl)) (nomark _))))) a_nil))))), fun ds R hl hF => ?_⟩
  match ds, hl, hF with
  | [x, d], _, h =>
    obtain ⟨n, rfl, hb, hz, q⟩ := h
    show rSeq _ _ _ [.val (.int n), .val d, .emp, .emp]
    refine seq_hide fun K1 hK1 => ?_
    nested_key
    refine ⟨ib_noN hb, ?_⟩
    cases d with
    | tup xs =>
      have hz := hz xs rfl
      rw [if_neg (by simp [isTupB])]
      have q' : R (D.bl (xs.all (isMem n) && chainB (xs.map keyOf))) := q
      nested_key
      refine ⟨fun k acc => acc = (xs.take k).map fun d => D.bl (isMem n d), rfl, fun k acc d hd h => ?_, fun acc h => ?_⟩
      · subst h
        refine ⟨n, rfl, ib_mem hb (List.mem_of_getElem? hd), ?_⟩
        dsimp only
        rw [take_map hd]
      · subst h
        rw [List.take_length]
        refine ⟨xs.map (isMem n), bls_map _ xs, ?_⟩
        rw [all_map]
        by_cases ha : xs.all (isMem n) = true
        · rw [if_neg (by simp [ha])]
          rw [ha, Bool.true_and] at q'
          refine hK1 _ ?_
          clear hK1
          nested_key
          refine ⟨by omega, ?_⟩
          have hlen : ((xs.length : Int) - 1).toNat = xs.length - 1 := by omega
          rw [hlen]
          refine ⟨fun k acc => acc = ((List.range (xs.length - 1)).take k).map fun i => D.bl (HT.lexLt ((xs.map keyOf).getD i []) ((xs.map keyOf).getD (i + 1) [])), rfl, fun k acc d hd h => ?_, fun acc h => ?_⟩
          · subst h
            obtain ⟨rfl, hk⟩ := range_int hd
            have hk1 : k < xs.length := by omega
            have hk2 : k + 1 < xs.length := by omega
            obtain ⟨d1, g1⟩ : ∃ d1, xs[k]? = some d1 := ⟨_, List.getElem?_eq_getElem hk1⟩
            obtain ⟨d2, g2⟩ : ∃ d2, xs[k + 1]? = some d2 := ⟨_, List.getElem?_eq_getElem hk2⟩
            obtain ⟨k1, c1, e1, f1⟩ := mem_keyed ha g1
            obtain ⟨k2, c2, e2, f2⟩ := mem_keyed ha g2
            have a1 : atI xs (k : Int) = some (.tup [.tup (k1.map D.int), .int c1]) := by rw [← e1]; exact atI_nat g1
            have a2 : atI xs ((k : Int) + 1) = some (.tup [.tup (k2.map D.int), .int c2]) := by rw [← e2]; exact atI_nat (j := k + 1) g2
            nested_key
            rw [a1, a2]
            nested_key
            refine ⟨k1, k2, rfl, rfl, ?_⟩
            have g3 : (List.range (xs.length - 1))[k]? = some k := List.getElem?_range hk
            rw [take_map g3, f1, f2]
          · subst h
            rw [rangeD_len, List.take_of_length_le (by rw [List.length_range]; exact Nat.le_refl _)]
            refine ⟨(List.range (xs.length - 1)).map fun i => HT.lexLt ((xs.map keyOf).getD i []) ((xs.map keyOf).getD (i + 1) []), bls_map (fun i => HT.lexLt ((xs.map keyOf).getD i []) ((xs.map keyOf).getD (i + 1) [])) (List.range (xs.length - 1)), ?_⟩
            rw [all_map (fun i => HT.lexLt ((xs.map keyOf).getD i []) ((xs.map keyOf).getD (i + 1) [])) (List.range (xs.length - 1))]
            have : chainB (xs.map keyOf) = (List.range (xs.length - 1)).all fun i => HT.lexLt ((xs.map keyOf).getD i []) ((xs.map keyOf).getD (i + 1) []) := by
              unfold chainB; rw [List.length_map]
            rw [this] at q'
            exact q'
        · rw [if_pos (by simp [ha])]
          rw [Bool.eq_false_iff.mpr ha, Bool.false_and] at q'
          exact q'
    | _ =>
      rw [if_pos (by simp [isTupB])]
      exact q

abbrev s_mean_of_rows : Stmt := topS 10
theorem sc_mean_of_rows : FnScope ["rows", "found", "powers", "number"] ["rows"] (defScope s_mean_of_rows) := ⟨rfl, rfl, rfl, by decide +kernel, rfl, by decide +kernel, by decide +kernel⟩
theorem ok_mean_of_rows {f : Addr} {fd : FuncData} (T : Txt mg) (F : Fun K "mean_of_rows" "mean_of_rows" s_mean_of_rows f fd) (gm : mg "mean_of_rows" = some (.ref f)) (nd : base.NoDigits)  : Df P w K mg base "mean_of_rows" 1 (spD ⟨K, w⟩ 1 F_mean_of_rows) := by
  refine fn_D F gm sc_mean_of_rows rfl (fun _ _ _ _ _ _ us hl => match us, hl with | [_], _ => rfl) fun cdv A outer s H E hr => ?_
  refine ⟨_, (s_cons (s_setO 1 sc_mean_of_rows.nd (k_dict0 ⟨K, w⟩))
      (s_cons (s_for PassesOwn.never rfl (ki_seq ⟨K, w⟩ (e_v 0)) (kg_tup ⟨K, w⟩ 2 rfl (gs_cons (g_name 2 sc_mean_of_rows.nd) (gs_cons (g_name 3 sc_mean_of_rows.nd) gs_nil))) (s_one (s_put 1 hr.u70 (e_v 2) (DE.immF (e_op (kAdd ⟨K, w⟩) d_addU (k_get ⟨K, w⟩ hr.u70 (e_b 1) (a_cons ((e_v 2)).bor (a_cons (e_int).bor a_nil))) ((e_v 3)).bor)))))
      (s_one (s_melt 1 (s_ret (e_ty (kTuple ⟨K, w⟩) d_tuple (by rfl) T.tuple (by decide +kernel) (a_cons (DF.de (k_sorted ⟨K, w⟩ rfl hr.u70 T.sorted (b := true) (a_cons (DF.de (e_lcif [("powers", 2), ("number", 3)] rfl sc_mean_of_rows.nd (ki_items ⟨K, w⟩ (e_v 1)) (blkOk_by (own := [("powers", 2), ("number", 3)]) rfl) (fun _ _ _ _ _ => (kg_tup ⟨K, w⟩ 2 rfl (gs_cons (g_name 2 sc_mean_of_rows.nd) (gs_cons (g_name 3 sc_mean_of_rows.nd) gs_nil)))) (fun _ _ _ _ _ => (t_cmp (b := true) (kNe ⟨K, w⟩ hr.u64) d_neD (e_v 3) e_int (nomark _))) (fun _ _ _ _ _ => (e_tup (a_cons (e_v 2) (a_cons (e_v 3) a_nil)))))) a_nil))) a_nil))))))), fun ds R hl hF => ?_⟩
  match ds, hl, hF with
  | [.lst xs], _, h | [.tup xs], _, h =>
    obtain ⟨m, rfl, hm, q⟩ := h
    nested_key
    refine ⟨fun k ρ => ∃ x y z, ρ = [.val x, .own (.dN (encA ((m.take k).foldl step []))), y, z], ⟨_, _, _, rfl⟩, fun k ρ d hd h => ?_, fun ρ h => ?_⟩
    · obtain ⟨x, y, z, rfl⟩ := h
      obtain ⟨r, hr, rfl⟩ := of_map hd
      nested_key
      unfold rowD
      nested_key
      refine ⟨trivial, nk r.1, nk_ok _, ?_⟩
      rw [getD_enc]
      nested_key
      refine ⟨rfl, nk r.1, nk_ok _, step_len hm, ?_⟩
      rw [putN_enc]
      exact ⟨_, _, _, by rw [take_step hr]; rfl⟩
    · obtain ⟨x, y, z, rfl⟩ := h
      rw [List.length_map, List.take_length]
      nested_key
      have hl : (asm m).length ≤ 10000 := by have := steps_len (rows := m) (as := []); simpa [asm] using Nat.le_trans this (by simpa using hm)
      rw [items_enc]
      change (_ ∧ (encA (asm m)).length ≤ _) ∧ _
      rw [show List.foldl step [] m = asm m from rfl]
      refine ⟨⟨vImm_enc, enc_len hl⟩, fun k acc => acc = (((asm m).take k).filter fun r => decide (r.2 ≠ 0)).map rowD, by simp, fun k acc d hd h => ?_, fun acc h => ?_⟩
      · subst h
        obtain ⟨r, hr, rfl⟩ := of_map hd
        unfold rowD
        nested_key
        rw [filter_step hr]
        refine ⟨trivial, ⟨rfl, rfl⟩, ?_⟩
        by_cases e : r.2 = 0 <;> simp [eqD, D.pd, PyData.eqv, e, rowD]
      · subst h
        rw [List.length_map, List.take_length]
        refine ⟨sortOk_rows (Nat.le_trans (List.length_filter_le _ _) hl), ?_⟩
        rw [sortD_rows]
        exact q

abbrev s_falling : Stmt := topS 11
theorem sc_falling : FnScope ["kinds", "k", "many", "row", "i", "a", "b", "p", "c"] ["kinds", "k", "many"] (defScope s_falling) := ⟨rfl, rfl, rfl, by decide +kernel, rfl, by decide +kernel, by decide +kernel⟩
theorem ok_falling {f : Addr} {fd : FuncData} (T : Txt mg) (F : Fun K "falling" "falling" s_falling f fd) (gm : mg "falling" = some (.ref f)) (nd : base.NoDigits) (G_mean_of_rows : Df P w K mg base "mean_of_rows" 1 (spD ⟨K, w⟩ 1 F_mean_of_rows)) : Df P w K mg base "falling" 2 (spD ⟨K, w⟩ 3 F_falling) := by
  refine fn_D F gm sc_falling rfl (fun _ _ _ _ _ _ us hl => match us, hl with | [_, _, _], _ => rfl) fun cdv A outer s H E hr => ?_
  refine ⟨_, (s_cons (s_set 3 sc_falling.nd (DF.de (e_lst (a_cons e_int a_nil))))
      (s_cons (s_for PassesOwn.never rfl (i_range1 (b := true) T.range (a_cons (e_v 2) a_nil)) (g_name 4 sc_falling.nd) (s_one (s_setLc 3 [("a", 5), ("b", 6)] rfl sc_falling.nd (sw_true rfl rfl rfl (by decide +kernel)) (ki_z2 ⟨K, w⟩ (b := true) T.zip (a_cons (DF.de (e_lstS (k_star ⟨K, w⟩ (e_v 3) (as_cons e_int as_nil)))) (a_cons (DF.de (e_lstS (as_cons e_int (k_star ⟨K, w⟩ (e_v 3) as_nil)))) a_nil))) (blkOk_by (own := [("a", 5), ("b", 6)]) rfl) (fun _ _ _ _ _ => (kg_tup ⟨K, w⟩ 2 rfl (gs_cons (g_name 5 sc_falling.nd) (gs_cons (g_name 6 sc_falling.nd) gs_nil)))) (fun _ _ _ _ _ => (e_op op_sub d_sub (e_v 5) (e_op (kMul ⟨K, w⟩) d_mulA (e_v 4) (e_v 6)))))))
      (s_one (s_ret (k_call (G_mean_of_rows.up (by decide)) hr (a_cons (DF.de (e_lc [("p", 7), ("c", 8)] rfl sc_falling.nd (ki_e ⟨K, w⟩ T.enumerate (a_cons (e_v 3) a_nil)) (blkOk_by (own := [("p", 7), ("c", 8)]) rfl) (fun _ _ _ _ _ => (kg_tup ⟨K, w⟩ 2 rfl (gs_cons (g_name 7 sc_falling.nd) (gs_cons (g_name 8 sc_falling.nd) gs_nil)))) (fun _ _ _ _ _ => (e_tup (a_cons (e_op (kAdd ⟨K, w⟩) d_addU (e_op (kAdd ⟨K, w⟩) d_addU (e_op (kMulU ⟨K, w⟩) d_mulUU (e_tup (a_cons e_int a_nil)) (e_v 1)) (e_tup (a_cons (e_v 7) a_nil))) (e_op (kMulU ⟨K, w⟩) d_mulUU (e_tup (a_cons e_int a_nil)) (e_op op_sub d_sub (e_op op_sub d_sub (e_v 0) (e_v 1)) e_int))) (a_cons (e_v 8) a_nil)))))) a_nil)))))), fun ds R hl hF => ?_⟩
  match ds, hl, hF with
  | [x, y, z], _, h =>
    obtain ⟨n, k, m, rfl, rfl, rfl, hn, hk, hm, q⟩ := h
    show rSeq _ _ _ [.val (.int n), .val (.int k), .val (.int m), .emp, .emp, .emp, .emp, .emp, .emp]
    have z100 : ∀ {n : Nat}, n ≤ 100000 → n ≤ sizeLine := fun h => Nat.le_trans h (by decide)
    refine seq_hide fun K1 hK1 => ?_
    nested_key
    refine hK1 _ ?_
    clear hK1
    refine seq_hide fun K2 hK2 => ?_
    nested_key
    refine ⟨by omega, fun t ρ => t ≤ m ∧ ∃ a b c d e, ρ = [.val (.int n), .val (.int k), .val (.int m), .val (.lst ((frow t).map D.int)), a, b, c, d, e], ⟨Nat.zero_le _, _, _, _, _, _, rfl⟩, fun t ρ d hd h => ?_, fun ρ h => ?_⟩
    · obtain ⟨ht, a, b, c, d', e, rfl⟩ := h
      obtain ⟨rfl, ht2⟩ := range_int hd
      have hl3 := frow_len t
      have ht3 : t + 1 ≤ m := by omega
      nested_key
      have i1 := immK (frow t)
      refine ⟨z100 (by simp; omega), z100 (by simp; omega), ⟨by rw [imm_app, i1]; rfl, by rw [List.append_nil]; rw [D.immL, i1]; rfl⟩, ?_⟩
      rw [List.append_nil]
      have e1 : (frow t).map D.int ++ [D.int 0] = (frow t ++ [0]).map D.int := by rw [List.map_append]; rfl
      have e2 : D.int 0 :: (frow t).map D.int = (0 :: frow t).map D.int := rfl
      rw [e1, e2, zip2_map]
      refine ⟨fun j acc => acc = (((frow t ++ [0]).zip (0 :: frow t)).take j |>.map fun (p : Int × Int) => p.1 - (t : Int) * p.2).map D.int, rfl, fun j acc d hd h => ?_, fun acc h => ?_⟩
      · subst h
        obtain ⟨p, hp, rfl⟩ := of_map hd
        nested_key
        refine ⟨trivial, .inl (.inl ⟨by omega, by omega⟩), ?_⟩
        rw [take_map (f := fun (p : Int × Int) => p.1 - (t : Int) * p.2) hp, List.map_append]; rfl
      · subst h
        rw [List.length_map, List.take_length]
        exact ⟨ht3, _, _, _, _, _, rfl⟩
    · obtain ⟨ht, a, b, c, d', e, rfl⟩ := h
      rw [rangeD_len]
      refine hK2 _ ?_
      clear hK2
      nested_key
      have e0 : ((m : Int)).toNat = m := rfl
      have e1 : ((n : Int) - (k : Int) - 1).toNat = n - k - 1 := by omega
      have e2 : ((k : Int)).toNat = k := rfl
      rw [e0]
      refine ⟨immK _, fun j acc => acc = ((fallRows n k m).take j).map rowD, rfl, fun j acc d hd h => ?_, fun acc h => ?_⟩
      · subst h
        obtain ⟨x, hx, rfl⟩ := enum_get hd
        have hg := frows_get (n := n) (k := k) (j := 0) hx
        rw [Nat.zero_add] at hg ⊢
        nested_key
        rw [e1, e2, rep_rows, rep_rows]
        refine ⟨trivial, ⟨by simp, by omega, by omega, by decide⟩, z100 (by simp; omega), ⟨by simp, by omega, by omega, by decide⟩, z100 (by simp; omega), ?_⟩
        have hm' : (fallRows n k m)[j]? = some (fkey n k j, x) := hg
        rw [take_map hm', rowD_e, fkey_D]
      · subst h
        rw [enum_len]
        have hl : (frow m).length = (fallRows n k m).length := frows_len.symm
        rw [hl, List.take_length]
        refine ⟨_, rfl, ?_, q⟩
        rw [← hl, frow_len]; omega

abbrev s_greatest_powers : Stmt := topS 12
theorem sc_greatest_powers : FnScope ["kinds", "mean", "k", "powers", "number"] ["kinds", "mean"] (defScope s_greatest_powers) := ⟨rfl, rfl, rfl, by decide +kernel, rfl, by decide +kernel, by decide +kernel⟩
theorem ok_greatest_powers {f : Addr} {fd : FuncData} (T : Txt mg) (F : Fun K "greatest_powers" "greatest_powers" s_greatest_powers f fd) (gm : mg "greatest_powers" = some (.ref f)) (nd : base.NoDigits)  : Df P w K mg base "greatest_powers" 1 (spD ⟨K, w⟩ 2 F_greatest_powers) := by
  refine fn_D F gm sc_greatest_powers rfl (fun _ _ _ _ _ _ us hl => match us, hl with | [_, _], _ => rfl) fun cdv A outer s H E hr => ?_
  refine ⟨_, (s_one (s_ret (e_ty (kTuple ⟨K, w⟩) d_tuple (by rfl) T.tuple (by decide +kernel) (a_cons (DF.de (e_lc [("k", 2)] rfl sc_greatest_powers.nd (i_range1 (b := true) T.range (a_cons (e_v 0) a_nil)) (blkOk_by (own := [("k", 2)]) rfl) (fun _ _ _ _ _ => (g_name 2 sc_greatest_powers.nd)) (fun _ _ _ _ _ => (k_maxD ⟨K, w⟩ rfl hr.u70 T.max (a_cons (DF.de (e_lc [("powers", 3), ("number", 4)] rfl sc_greatest_powers.nd (ki_seq ⟨K, w⟩ (e_v 1)) (blkOk_by (own := [("powers", 3), ("number", 4)]) rfl) (fun _ _ _ _ _ => (kg_tup ⟨K, w⟩ 2 rfl (gs_cons (g_name 3 sc_greatest_powers.nd) (gs_cons (g_name 4 sc_greatest_powers.nd) gs_nil)))) (fun _ _ _ _ _ => (e_ix (kIxU ⟨K, w⟩) d_ixU (e_v 3) (e_v 2) (fun _ _ => rfl))))) a_nil) e_int)))) a_nil)))), fun ds R hl hF => ?_⟩
  match ds, hl, hF with
  | [x, y], _, h =>
    obtain ⟨n, m, rfl, rfl, h1, h2, h3, q⟩ := h
    unfold mD
    nested_key
    rw [range_map, show ((n : Int)).toNat = n from rfl]
    refine ⟨⟨by omega, by omega⟩, fun k acc => acc = (((List.range n).take k).map fun k => (m.map fun r => r.1.getD k 0).foldl max 0).map D.int, rfl, fun k acc d hd h => ?_, fun acc h => ?_⟩
    · subst h
      obtain ⟨i, hi, rfl⟩ := of_map hd
      obtain ⟨rfl, hin⟩ := range_get hi
      refine ⟨fun k acc => acc = ((m.take k).map fun r => r.1.getD i 0).map D.int, rfl, fun k acc d hd h => ?_, fun acc h => ?_⟩
      · subst h
        obtain ⟨r, hr, rfl⟩ := of_map hd
        unfold rowD kD
        nested_key
        refine ⟨trivial, ?_⟩
        rw [kD_get (by rw [(h3 r (List.mem_of_getElem? hr)).1]; exact hin)]
        nested_key
        rw [take_map hr, List.map_append]; rfl
      · subst h
        rw [List.length_map, List.take_length]
        refine ⟨_, rfl, ?_⟩
        refine (congrArg (fun z => _ ++ [D.int z]) (great_of (ns := m.map fun r => r.1.getD i 0) ?_)).trans ?_
        rotate_left
        · rw [take_map hi, List.map_append]; rfl
        · intro x hx
          obtain ⟨r, hr, rfl⟩ := List.mem_map.mp hx
          obtain ⟨e, hp⟩ := h3 r hr
          refine hp _ ?_
          rw [← e] at hin
          rw [List.getD, List.getElem?_eq_getElem hin]
          exact List.getElem_mem hin
    · subst h
      rw [List.length_map, List.take_length]
      exact q

abbrev s_size_product : Stmt := topS 13
theorem sc_size_product : FnScope ["sizes", "powers", "found", "n", "p"] ["sizes", "powers"] (defScope s_size_product) := ⟨rfl, rfl, rfl, by decide +kernel, rfl, by decide +kernel, by decide +kernel⟩
theorem ok_size_product {f : Addr} {fd : FuncData} (T : Txt mg) (F : Fun K "size_product" "size_product" s_size_product f fd) (gm : mg "size_product" = some (.ref f)) (nd : base.NoDigits) (G_number_power : Df P w K mg base "number_power" 1 (spD ⟨K, w⟩ 2 F_number_power)) : Df P w K mg base "size_product" 2 (spD ⟨K, w⟩ 2 F_size_product) := by
  refine fn_D F gm sc_size_product rfl (fun _ _ _ _ _ _ us hl => match us, hl with | [_, _], _ => rfl) fun cdv A outer s H E hr => ?_
  refine ⟨_, (s_cons (s_set 2 sc_size_product.nd e_int)
      (s_cons (s_for PassesOwn.never rfl (ki_z2 ⟨K, w⟩ (b := true) T.zip (a_cons (e_v 0) (a_cons (e_v 1) a_nil))) (kg_tup ⟨K, w⟩ 2 rfl (gs_cons (g_name 3 sc_size_product.nd) (gs_cons (g_name 4 sc_size_product.nd) gs_nil))) (s_one (s_set 2 sc_size_product.nd (e_op (kMul ⟨K, w⟩) d_mulA (e_v 2) (k_call (G_number_power.up (by decide)) hr (a_cons (e_v 3) (a_cons (e_v 4) a_nil)))))))
      (s_one (s_ret (e_v 2))))), fun ds R hl hF => ?_⟩
  match ds, hl, hF with
  | [x, y], _, h =>
    obtain ⟨a, b, hx, hy, h1, h2, h3, h4, q⟩ := h
    rcases hx with rfl | rfl <;> rcases hy with rfl | rfl
    all_goals
      (try unfold kD)
      nested_key
      rw [zip2_map]
      refine ⟨⟨immK a, immK b⟩, fun k ρ => ∃ z y x u, ρ = [z, y, .val (.int (((a.zip b).take k).foldl (fun x p => x * p.1 ^ p.2.toNat) 1)), x, u] ∧ small (4041 * k + 1) (((a.zip b).take k).foldl (fun x p => x * p.1 ^ p.2.toNat) 1), ⟨_, _, _, _, rfl, by simp [small]⟩, fun k ρ d hd h => ?_, fun ρ h => ?_⟩
      · obtain ⟨z, y, x, u, rfl, hs⟩ := h
        obtain ⟨r, hr, rfl⟩ := of_map hd
        nested_key
        have hk : k < 3 := by
          have := (List.getElem?_eq_some_iff.mp hr).1
          rw [List.length_zip] at this; omega
        have hm := List.mem_of_getElem? hr
        have ha := h3 _ (List.of_mem_zip hm).1
        obtain ⟨hb0, hb⟩ := h4 _ (List.of_mem_zip hm).2
        have hp : small 4041 (r.1 ^ r.2.toNat) := (small.pow ha r.2.toNat).mono (by omega)
        refine ⟨trivial, ⟨ha.mono (by decide), by omega, by omega⟩, ?_⟩
        nested_key
        refine ⟨mulW hs hp (by omega), _, _, _, _, by rw [take_step hr], ?_⟩
        rw [take_step hr]
        exact (hs.mul hp).mono (by omega)
      · obtain ⟨z, y, x, u, rfl, hs⟩ := h
        nested_key
        rw [List.length_map, List.take_length, pw_zip, Int.one_mul]
        exact q

abbrev s_mean_at : Stmt := topS 14
theorem sc_mean_at : FnScope ["mean", "sizes", "greatest", "total", "powers", "number", "most", "p"] ["mean", "sizes"] (defScope s_mean_at) := ⟨rfl, rfl, rfl, by decide +kernel, rfl, by decide +kernel, by decide +kernel⟩
theorem ok_mean_at {f : Addr} {fd : FuncData} (T : Txt mg) (F : Fun K "mean_at" "mean_at" s_mean_at f fd) (gm : mg "mean_at" = some (.ref f)) (nd : base.NoDigits) (G_fraction_of : Df P w K mg base "fraction_of" 1 (spD ⟨K, w⟩ 2 F_fraction_of)) (G_greatest_powers : Df P w K mg base "greatest_powers" 1 (spD ⟨K, w⟩ 2 F_greatest_powers)) (G_size_product : Df P w K mg base "size_product" 2 (spD ⟨K, w⟩ 2 F_size_product)) : Df P w K mg base "mean_at" 3 (spD ⟨K, w⟩ 2 F_mean_at) := by
  refine fn_D F gm sc_mean_at rfl (fun _ _ _ _ _ _ us hl => match us, hl with | [_, _], _ => rfl) fun cdv A outer s H E hr => ?_
  refine ⟨_, (s_cons (s_par 2 3 rfl sc_mean_at.nd (a_cons (k_call (G_greatest_powers.up (by decide)) hr (a_cons (e_bi (kLen ⟨K, w⟩) d_len (by rfl) T.len (by decide +kernel) (a_cons (e_v 1) a_nil)) (a_cons (e_v 0) a_nil))) (a_cons e_int a_nil)))
      (s_cons (s_for PassesOwn.never rfl (ki_seq ⟨K, w⟩ (e_v 0)) (kg_tup ⟨K, w⟩ 2 rfl (gs_cons (g_name 4 sc_mean_at.nd) (gs_cons (g_name 5 sc_mean_at.nd) gs_nil))) (s_one (s_set 3 sc_mean_at.nd (e_op (kAdd ⟨K, w⟩) d_addU (e_v 3) (e_op (kMul ⟨K, w⟩) d_mulA (e_v 5) (k_call (G_size_product.up (by decide)) hr (a_cons (e_v 1) (a_cons (DF.de (e_lc [("most", 6), ("p", 7)] rfl sc_mean_at.nd (ki_z2 ⟨K, w⟩ (b := true) T.zip (a_cons (e_v 2) (a_cons (e_v 4) a_nil))) (blkOk_by (own := [("most", 6), ("p", 7)]) rfl) (fun _ _ _ _ _ => (kg_tup ⟨K, w⟩ 2 rfl (gs_cons (g_name 6 sc_mean_at.nd) (gs_cons (g_name 7 sc_mean_at.nd) gs_nil)))) (fun _ _ _ _ _ => (e_op op_sub d_sub (e_v 6) (e_v 7))))) a_nil))))))))
      (s_one (s_ret (k_call (G_fraction_of.up (by decide)) hr (a_cons (e_v 3) (a_cons (k_call (G_size_product.up (by decide)) hr (a_cons (e_v 1) (a_cons (e_v 2) a_nil))) a_nil))))))), fun ds R hl hF => ?_⟩
  match ds, hl, hF with
  | [x, y], _, h =>
    obtain ⟨m, s, rfl, rfl, hs, hm, q⟩ := h
    have hrow : ∀ r ∈ m, r.1.length = s.length ∧ ∀ p ∈ r.1, 0 ≤ p ∧ p ≤ 40 := fun r hr => ⟨(hm.row r hr).1, (hm.row r hr).2.1⟩
    have hbel := great_below hrow
    have hs1 : ∀ x ∈ s, 1 ≤ x := fun x hx => (hs.2 x hx).1
    have hs2 : ∀ x ∈ s, small 101 x := fun x hx => (hs.2 x hx).2
    have hg : ∀ p ∈ great s.length m, 0 ≤ p ∧ p ≤ 40 := fun p hp => by
      obtain ⟨i, hi, rfl⟩ := K49.mem_getD hp
      exact great_le hrow i (by rw [great_len] at hi; exact hi)
    unfold mD kD
    nested_key
    refine ⟨s.length, m, by rw [List.length_map], rfl, by have := hs.1; omega, by have := hm.len; omega, fun r hr => ⟨(hrow r hr).1, fun p hp => ((hrow r hr).2 p hp).1⟩, ?_⟩
    generalize hG : great s.length m = g at *
    have hgl : g.length = s.length := by rw [← hG, great_len]
    refine ⟨fun k ρ => (∃ x y u v, ρ = [.val (.tup (m.map rowD)), .val (.tup (s.map D.int)), .val (kD g), .val (.int (tot s g (m.take k))), x, y, u, v]) ∧ small (12340 + k) (tot s g (m.take k)), ⟨⟨_, _, _, _, rfl⟩, by unfold small tot; simp⟩, fun k ρ d hd h => ?_, fun ρ h => ?_⟩
    · obtain ⟨⟨x, y, u, v, rfl⟩, ht⟩ := h
      obtain ⟨r, hr, rfl⟩ := of_map hd
      have hrm := List.mem_of_getElem? hr
      obtain ⟨hr1, hr2⟩ := hrow r hrm
      have hr3 := (hm.row r hrm).2.2
      have hb := hbel r hrm
      obtain ⟨hb1, hb2⟩ := hb.sub
      have hp : small 12127 (pw s (psub g r.1)) := pw_small3 hs.1 hs2 hb2
      have hst : tot s g (m.take (k + 1)) = tot s g (m.take k) + r.2 * pw s (psub g r.1) := by unfold tot; rw [take_step hr]
      unfold rowD kD
      nested_key
      rw [zip2_map]
      refine ⟨trivial, ⟨immK g, immK r.1⟩, fun k acc => acc = (((g.zip r.1).take k).map fun p => p.1 - p.2).map D.int, rfl, fun k acc d hd h => ?_, fun acc h => ?_⟩
      · subst h
        obtain ⟨t, ht, rfl⟩ := of_map hd
        nested_key
        refine ⟨trivial, ?_⟩
        rw [take_map ht, List.map_append]; rfl
      · subst h
        rw [List.length_map, List.take_length]
        refine ⟨s, psub g r.1, .inl rfl, .inr rfl, by rw [hb1, hr1], hs.1, hs2, hb2, ?_⟩
        nested_key
        refine ⟨mulW hr3 hp (by decide), ⟨_, _, _, _, by rw [hst]⟩, ?_⟩
        rw [hst]
        exact (ht.add ((hr3.mul hp).mono (by omega))).mono (by omega)
    · obtain ⟨⟨x, y, u, v, rfl⟩, ht⟩ := h
      rw [List.length_map, List.take_length] at *
      nested_key
      refine ⟨s, g, .inl rfl, .inl rfl, hgl.symm, hs.1, hs2, hg, ?_⟩
      have hne := pw_ne (k := g) hs1
      refine ⟨⟨by omega, ht.mono (by have := hm.len; omega), (pw_small3 hs.1 hs2 hg).mono (by omega)⟩, ?_⟩
      rw [fr_frac (by omega), tot_val hs1 hbel]
      exact q

abbrev s_mean_row : Stmt := topS 15
theorem sc_mean_row : FnScope ["mean", "k", "sizes", "greatest", "others", "row", "powers", "number", "left", "kind", "n", "most", "p"] ["mean", "k", "sizes"] (defScope s_mean_row) := ⟨rfl, rfl, rfl, by decide +kernel, rfl, by decide +kernel, by decide +kernel⟩
theorem ok_mean_row {f : Addr} {fd : FuncData} (T : Txt mg) (F : Fun K "mean_row" "mean_row" s_mean_row f fd) (gm : mg "mean_row" = some (.ref f)) (nd : base.NoDigits) (G_greatest_powers : Df P w K mg base "greatest_powers" 1 (spD ⟨K, w⟩ 2 F_greatest_powers)) (G_size_product : Df P w K mg base "size_product" 2 (spD ⟨K, w⟩ 2 F_size_product)) : Df P w K mg base "mean_row" 3 (spD ⟨K, w⟩ 3 F_mean_row) := by
  refine fn_D F gm sc_mean_row rfl (fun _ _ _ _ _ _ us hl => match us, hl with | [_, _, _], _ => rfl) fun cdv A outer s H E hr => ?_
  refine ⟨_, (s_cons (s_set 3 sc_mean_row.nd (k_call (G_greatest_powers.up (by decide)) hr (a_cons (e_bi (kLen ⟨K, w⟩) d_len (by rfl) T.len (by decide +kernel) (a_cons (e_v 2) a_nil)) (a_cons (e_v 0) a_nil))))
      (s_cons (s_par2O 4 5 rfl sc_mean_row.nd (DF.de (e_lc [("kind", 9), ("n", 10)] rfl sc_mean_row.nd (ki_e ⟨K, w⟩ T.enumerate (a_cons (e_v 2) a_nil)) (blkOk_by (own := [("kind", 9), ("n", 10)]) rfl) (fun _ _ _ _ _ => (kg_tup ⟨K, w⟩ 2 rfl (gs_cons (g_name 9 sc_mean_row.nd) (gs_cons (g_name 10 sc_mean_row.nd) gs_nil)))) (fun _ _ _ _ _ => (e_if (t_cmp (b := true) (kEq ⟨K, w⟩ hr.u64) d_eqD (e_v 9) (e_v 1) (nomark _)) e_int (e_v 10))))) (e_repF (DF.de (e_lst (a_cons e_int a_nil))) (e_op (kAdd ⟨K, w⟩) d_addU (e_ix (kIxU ⟨K, w⟩) d_ixU (e_v 3) (e_v 1) (fun _ _ => rfl)) e_int)))
      (s_cons (s_for PassesOwn.never rfl (ki_seq ⟨K, w⟩ (e_v 0)) (kg_tup ⟨K, w⟩ 2 rfl (gs_cons (g_name 6 sc_mean_row.nd) (gs_cons (g_name 7 sc_mean_row.nd) gs_nil))) (s_cons (s_setLc 8 [("most", 11), ("p", 12)] rfl sc_mean_row.nd (sw_true rfl rfl rfl (by decide +kernel)) (ki_z2 ⟨K, w⟩ (b := true) T.zip (a_cons (e_v 3) (a_cons (e_v 6) a_nil))) (blkOk_by (own := [("most", 11), ("p", 12)]) rfl) (fun _ _ _ _ _ => (kg_tup ⟨K, w⟩ 2 rfl (gs_cons (g_name 11 sc_mean_row.nd) (gs_cons (g_name 12 sc_mean_row.nd) gs_nil)))) (fun _ _ _ _ _ => (e_op op_sub d_sub (e_v 11) (e_v 12))))
      (s_one (s_put 5 hr.u70 (e_ix (kIxU ⟨K, w⟩) d_ixU (e_v 8) (e_v 1) (fun _ _ => rfl)) (DE.immF (e_op (kAdd ⟨K, w⟩) d_addU (e_ix (kIxU ⟨K, w⟩) d_ixU (e_b 5) ((e_ix (kIxU ⟨K, w⟩) d_ixU (e_v 8) (e_v 1) (fun _ _ => rfl))).bor (fun _ _ => rfl)) ((e_op (kMul ⟨K, w⟩) d_mulA (e_v 7) (k_call (G_size_product.up (by decide)) hr (a_cons (e_v 4) (a_cons (e_v 8) a_nil))))).bor))))))
      (s_one (s_melt 5 (s_ret (e_tup (a_cons (e_ty (kTuple ⟨K, w⟩) d_tuple (by rfl) T.tuple (by decide +kernel) (a_cons (e_v 5) a_nil)) (a_cons (e_ix (kIxU ⟨K, w⟩) d_ixU (e_v 3) (e_v 1) (fun _ _ => rfl)) (a_cons (k_call (G_size_product.up (by decide)) hr (a_cons (e_v 4) (a_cons (e_v 3) a_nil))) a_nil)))))))))), fun ds R hl hF => ?_⟩
  match ds, hl, hF with
  | [x, y, z], _, h =>
    obtain ⟨m, s, k, rfl, rfl, rfl, hs, hm, hk, q⟩ := h
    show rSeq _ _ _ [.val (mD m), .val (.int k), .val (kD s), .emp, .emp, .emp, .emp, .emp, .emp, .emp, .emp, .emp, .emp]
    have hrow : ∀ r ∈ m, r.1.length = s.length ∧ ∀ p ∈ r.1, 0 ≤ p ∧ p ≤ 40 := fun r hr => ⟨(hm.row r hr).1, (hm.row r hr).2.1⟩
    have hbel := great_below hrow
    have hs2 : ∀ x ∈ s, small 101 x := fun x hx => (hs.2 x hx).2
    have hgl : (great s.length m).length = s.length := great_len
    have hg : ∀ p ∈ great s.length m, 0 ≤ p ∧ p ≤ 40 := fun p hp => by
      obtain ⟨i, hi, rfl⟩ := K49.mem_getD hp
      exact great_le hrow i (by rw [great_len] at hi; exact hi)
    refine seq_hide fun K1 hK1 => ?_
    unfold kD
    nested_key
    refine ⟨s.length, m, by rw [List.length_map], rfl, by have := hs.1; omega, by have := hm.len; omega, fun r hr => ⟨(hrow r hr).1, fun p hp => ((hrow r hr).2 p hp).1⟩, ?_⟩
    generalize hG : great s.length m = g at *
    refine hK1 _ ?_
    clear hK1
    refine seq_hide fun K2 hK2 => ?_
    unfold kD
    nested_key
    have hgk := K49.getD_mem (k := g) (i := k) (by omega)
    obtain ⟨hg0, hg1⟩ := hg _ hgk
    refine ⟨immK s, fun j acc => acc = ((s.set k 1).take j).map D.int, rfl, fun j acc d hd h => ?_, fun acc h => ?_⟩
    · subst h
      obtain ⟨x, hx, rfl⟩ := enum_get hd
      have ho := others_get (k := k) hx
      rw [Nat.zero_add]
      nested_key
      refine ⟨trivial, ⟨rfl, rfl⟩, ?_⟩
      rw [eqD_int, take_map ho]
      by_cases e : j = k
      · rw [if_pos (by simp [e]), if_pos e]
      · rw [if_neg (by simp; omega), if_neg e]
    · subst h
      have hsl : s.length = (s.set k 1).length := List.length_set.symm
      rw [enum_len, hsl, List.take_length, kD_get (by omega)]
      nested_key
      refine ⟨⟨by omega, by omega, by decide⟩, ?_⟩
      rw [rep_rows]
      refine hK2 _ ?_
      clear hK2
      refine seq_hide fun K3 hK3 => ?_
      unfold mD
      nested_key
      have e1 : (g.getD k 0 + 1).toNat = (g.getD k 0).toNat + 1 := by omega
      rw [e1]
      have hR0 : (List.replicate ((g.getD k 0).toNat + 1) (0 : Int)).length = (g.getD k 0).toNat + 1 := List.length_replicate
      have hq : mrow s k m = m.foldl (rowStep s g k) (List.replicate ((g.getD k 0).toNat + 1) 0) := by unfold mrow; rw [hG]
      rw [hq] at q
      generalize List.replicate ((g.getD k 0).toNat + 1) (0 : Int) = R0 at *
      refine ⟨fun t ρ => ∃ a b c d1 d2 e f, ρ = [.val (mD m), .val (.int k), .val (kD s), .val (kD g), .val (.lst ((s.set k 1).map D.int)), .own (.lst (((m.take t).foldl (rowStep s g k) R0).map D.int)), a, b, c, d1, d2, e, f], ⟨_, _, _, _, _, _, _, rfl⟩, fun t ρ d hd h => ?_, fun ρ h => ?_⟩
      · obtain ⟨a, b, c, d1, d2, e, f, rfl⟩ := h
        obtain ⟨r, hr, rfl⟩ := of_map hd
        have hrm := List.mem_of_getElem? hr
        obtain ⟨hr1, hr2⟩ := hrow r hrm
        have hr3 := (hm.row r hrm).2.2
        have hb := hbel r hrm
        obtain ⟨hb1, hb2⟩ := hb.sub
        have hrl : ((m.take t).foldl (rowStep s g k) R0).length = (g.getD k 0).toNat + 1 := by rw [rows_len2, hR0]
        have hst : (m.take (t + 1)).foldl (rowStep s g k) R0 = rowStep s g k ((m.take t).foldl (rowStep s g k) R0) r := by rw [take_step hr]
        generalize (m.take t).foldl (rowStep s g k) R0 = row at *
        have hpk := psub_get (g := g) (k := r.1) (i := k) (by omega) (by omega)
        have hrk := hr2 _ (K49.getD_mem (k := r.1) (i := k) (by omega))
        obtain ⟨hb3, hb4, hb5⟩ := hb.2 k (by omega)
        unfold rowD kD
        nested_key
        rw [zip2_map]
        refine ⟨trivial, ⟨immK g, immK r.1⟩, fun j acc => acc = (((g.zip r.1).take j).map fun p => p.1 - p.2).map D.int, rfl, fun j acc d hd h => ?_, fun acc h => ?_⟩
        · subst h
          obtain ⟨p, hp, rfl⟩ := of_map hd
          nested_key
          refine ⟨trivial, ?_⟩
          rw [take_map hp, List.map_append]; rfl
        · subst h
          rw [List.length_map, List.take_length]
          have hps : (g.zip r.1).map (fun p => p.1 - p.2) = psub g r.1 := rfl
          rw [hps, kD_get (by rw [hb1]; omega)]
          nested_key
          have hp0 : 0 ≤ (psub g r.1).getD k 0 := by rw [hpk]; omega
          have hpn : (psub g r.1).getD k 0 = (((psub g r.1).getD k 0).toNat : Int) := by omega
          have hlt : ((psub g r.1).getD k 0).toNat < row.length := by rw [hrl, hpk]; omega
          have hat : atI (row.map D.int) ((psub g r.1).getD k 0) = some (.int (row.getD ((psub g r.1).getD k 0).toNat 0)) := by
            rw [hpn]; exact kD_get hlt
          rw [hat]
          nested_key
          have hpw : small 12127 (pw (s.set k 1) (psub g r.1)) := pw_small3 (by rw [List.length_set]; exact hs.1) (set_small hs2) hb2
          refine ⟨s.set k 1, psub g r.1, .inr rfl, .inr rfl, by rw [List.length_set, hb1, hr1], by rw [List.length_set]; exact hs.1, set_small hs2, hb2, ?_⟩
          nested_key
          refine ⟨mulW hr3 hpw (by decide), rfl, _, ((psub g r.1).getD k 0).toNat, rfl, ?_, ?_⟩
          · rw [List.length_map]
            unfold ixN
            rw [if_pos hp0, if_pos (by omega)]
          · have hset : (row.map D.int).set ((psub g r.1).getD k 0).toNat (D.int (row.getD ((psub g r.1).getD k 0).toNat 0 + r.2 * pw (s.set k 1) (psub g r.1))) = (rowStep s g k row r).map D.int := by
              unfold rowStep; rw [List.map_set]
            rw [hst, ← hset]
            exact ⟨_, _, _, _, _, _, _, rfl⟩
      · obtain ⟨a, b, c, d1, d2, e, f, rfl⟩ := h
        rw [List.length_map, List.take_length] at *
        refine hK3 _ ?_
        clear hK3
        unfold kD
        nested_key
        rw [kD_get (by omega)]
        nested_key
        exact ⟨s.set k 1, g, .inr rfl, .inl rfl, by rw [List.length_set]; omega, by rw [List.length_set]; exact hs.1, set_small hs2, hg, q⟩

abbrev s__law_pick : Stmt := topS 18
theorem sc__law_pick : FnScope ["source", "most", "cells", "others", "lap", "stirred"] ["source", "most"] (defScope s__law_pick) := ⟨rfl, rfl, rfl, by decide +kernel, rfl, by decide +kernel, by decide +kernel⟩
theorem ok__law_pick {f : Addr} {fd : FuncData} (T : Txt mg) (F : Fun K "_law_pick" "_law_pick" s__law_pick f fd) (gm : mg "_law_pick" = some (.ref f)) (nd : base.NoDigits)  : Df P w K mg base "_law_pick" 1 (spS ⟨K, w⟩ 1 F__law_pick) := by
  refine fn_S F gm sc__law_pick rfl (fun _ _ _ _ _ _ us hl => match us, hl with | [_, _], _ => rfl) fun cdv A outer s H E hr => ?_
  refine ⟨_, (s_cons (s_if (t_cmp (b := true) op_lt d_lt (e_v 1) e_int (nomark _)) (s_one (s_ret e_int)) s_nil)
      (s_drainA 0 2 PassesOwn.never hr.u1 T.len sc__law_pick.nd (s_cons (s_set 3 sc__law_pick.nd (e_srcI 0 hr.u1 (.inl rfl)))
      (s_cons (s_if (t_cmp (b := true) op_gt d_gt (e_v 3) e_int (nomark _)) (s_cons (s_srcP (b := true) 0 hr.u1 (.inl rfl) (e_op op_fd d_fd (e_v 3) (e_v 1)))
      (s_one (s_ret (e_op op_modN d_mod (e_ty call_int1 d_int (by rfl) T.int (by decide +kernel) (a_cons (e_v 3) a_nil)) (e_v 1))))) s_nil)
      (s_cons (s_srcP (b := true) 0 hr.u1 (.inr (.inr rfl)) (e_op (kAdd ⟨K, w⟩) d_addU (e_srcI 0 hr.u1 (.inr (.inr rfl))) e_int))
      (s_cons (s_set 4 sc__law_pick.nd (e_srcI 0 hr.u1 (.inr (.inr rfl))))
      (s_cons (s_set 5 sc__law_pick.nd (e_op op_modN d_mod (e_ty call_int1 d_int (by rfl) T.int (by decide +kernel) (a_cons (e_op (kAdd ⟨K, w⟩) d_addU (e_srcI 0 hr.u1 (.inr (.inl rfl))) (e_op (kMul ⟨K, w⟩) d_mulA (e_v 4) e_int)) a_nil)) e_int))
      (s_cons (s_set 5 sc__law_pick.nd (e_op op_modN d_mod (e_ty call_int1 d_int (by rfl) T.int (by decide +kernel) (a_cons (e_op (kAdd ⟨K, w⟩) d_addU (e_op (kMul ⟨K, w⟩) d_mulA (e_v 5) (e_v 5)) (e_op (kMul ⟨K, w⟩) d_mulA (e_v 4) e_int)) a_nil)) e_int))
      (s_one (s_ret (e_op op_modN d_mod (e_ty call_int1 d_int (by rfl) T.int (by decide +kernel) (a_cons (e_op op_fd d_fd (e_v 5) e_int) a_nil)) (e_v 1)))))))))))), fun ds R hl hF => ?_⟩
  match ds, hl, hF with
  | [.int m], _, ⟨h1, h2⟩ =>
    nested_key
    have s1 : ∀ x y : Int, -(2 ^ 64) < y → y < 2 ^ 64 → CMulA x y := fun x y a b => .inl (.inr ⟨a, b⟩)
    by_cases hm : m < 2
    · rw [if_pos hm]; exact h2 0 (by omega) (.inr rfl)
    · rw [if_neg hm]
      have hm0 : (0 : Int) < m := by omega
      have hf : ∀ x : Int, 0 ≤ x.fmod m ∧ x.fmod m < m := fun x => by
        rw [Int.fmod_eq_emod_of_nonneg _ (by omega)]
        exact ⟨Int.emod_nonneg _ (by omega), Int.emod_lt_of_pos _ hm0⟩
      have bd : ∀ x n : Int, 0 < n → n < 2 ^ 40 → -(2 ^ 64) < x.fmod n ∧ x.fmod n < 2 ^ 64 := fun x n h0 h9 => by
        rw [Int.fmod_eq_emod_of_nonneg _ (by omega)]
        have a := Int.emod_nonneg x (show n ≠ 0 by omega)
        have b := Int.emod_lt_of_pos x h0
        omega
      have hcf : ∀ x : Int, CFd x m := fun x => ⟨by omega, .inl (Nat.lt_of_lt_of_le (PySem.Flt.log2_lt_of (by decide) h1) (by decide))⟩
      refine ⟨trivial, by decide, by decide, trivial, fun l => ?_⟩
      by_cases hl : 1 < l
      · rw [if_pos hl]
        exact ⟨trivial, hcf _, _, rfl, by omega, h2 _ (hf _).1 (.inl (hf _).2)⟩
      · rw [if_neg hl]
        refine ⟨trivial, trivial, fun t => ⟨_, rfl, trivial, fun l => ⟨trivial, fun x => ⟨s1 _ _ (by decide) (by decide), by decide, s1 _ _ (bd _ _ (by decide) (by decide)).1 (bd _ _ (by decide) (by decide)).2, s1 _ _ (by decide) (by decide), by decide, ⟨by decide, .inl (by decide)⟩, by omega, h2 _ (hf _).1 (.inl (hf _).2)⟩⟩⟩⟩

abbrev s__law_of : Stmt := topS 19
theorem sc__law_of : FnScope ["source", "some"] ["source", "some"] (defScope s__law_of) := ⟨rfl, rfl, rfl, by decide +kernel, rfl, by decide +kernel, by decide +kernel⟩
theorem ok__law_of {f : Addr} {fd : FuncData} (T : Txt mg) (F : Fun K "_law_of" "_law_of" s__law_of f fd) (gm : mg "_law_of" = some (.ref f)) (nd : base.NoDigits) (G__law_pick : Df P w K mg base "_law_pick" 1 (spS ⟨K, w⟩ 1 F__law_pick)) : Df P w K mg base "_law_of" 2 (spS ⟨K, w⟩ 1 F__law_of) := by
  refine fn_S F gm sc__law_of rfl (fun _ _ _ _ _ _ us hl => match us, hl with | [_, _], _ => rfl) fun cdv A outer s H E hr => ?_
  refine ⟨_, (s_one (s_ret (e_ix (kIxU ⟨K, w⟩) d_ixU (e_v 1) (k_callS 0 (G__law_pick.up (by decide)) hr (a_cons (e_bi (kLen ⟨K, w⟩) d_len (by rfl) T.len (by decide +kernel) (a_cons (e_v 1) a_nil)) a_nil)) (fun _ _ => rfl)))), fun ds R hl hF => ?_⟩
  match ds, hl, hF with
  | [d], _, h =>
    have go : ∀ xs : List D, (xs ≠ [] ∧ xs.length ≤ 1000) ∧ (∀ x ∈ xs, R x) → F__law_pick [D.int xs.length] fun y => match y with
        | D.int i => match atI xs i with
          | some d => R d
          | none => False
        | _ => False := fun xs h => by
      obtain ⟨⟨h0, h1⟩, h2⟩ := h
      have hp := List.length_pos_iff.mpr h0
      refine ⟨Nat.lt_of_lt_of_le (m := 2 ^ 10) (by omega) (Nat.pow_le_pow_right (by decide) (by decide)), fun r h3 h4 => ?_⟩
      have hr : r.toNat < xs.length := by omega
      have e : atI xs r = some xs[r.toNat] := by
        have := atI_nat (xs := xs) (j := r.toNat) (List.getElem?_eq_getElem hr)
        rw [← this]
        congr 1
        omega
      simp only [e]
      exact h2 _ (List.getElem_mem hr)
    cases d with
    | lst xs =>
      nested_key
      exact ⟨trivial, go xs h⟩
    | tup xs =>
      nested_key
      exact ⟨trivial, go xs h⟩
    | _ => exact h.elim

abbrev s__law_fraction : Stmt := topS 20
theorem sc__law_fraction : FnScope ["p", "q", "a", "b"] ["p", "q"] (defScope s__law_fraction) := ⟨rfl, rfl, rfl, by decide +kernel, rfl, by decide +kernel, by decide +kernel⟩
theorem ok__law_fraction {f : Addr} {fd : FuncData} (T : Txt mg) (F : Fun K "_law_fraction" "_law_fraction" s__law_fraction f fd) (gm : mg "_law_fraction" = some (.ref f)) (nd : base.NoDigits)  : Df P w K mg base "_law_fraction" 1 (spD ⟨K, w⟩ 2 F__law_fraction) := by
  refine fn_D F gm sc__law_fraction rfl (fun _ _ _ _ _ _ us hl => match us, hl with | [_, _], _ => rfl) fun cdv A outer s H E hr => ?_
  refine ⟨_, (s_cons (s_par 2 3 rfl sc__law_fraction.nd (a_cons (e_bi call_abs d_abs (by rfl) T.abs (by decide +kernel) (a_cons (e_v 0) a_nil)) (a_cons (e_bi call_abs d_abs (by rfl) T.abs (by decide +kernel) (a_cons (e_v 1) a_nil)) a_nil)))
      (s_cons (s_while PassesOwn.never (t_cmp (b := true) op_gt d_gt (e_v 3) e_int (nomark _)) (s_one (s_par 2 3 rfl sc__law_fraction.nd (a_cons (e_v 3) (a_cons (e_op op_modN d_mod (e_ty call_int1 d_int (by rfl) T.int (by decide +kernel) (a_cons (e_v 2) a_nil)) (e_v 3)) a_nil)))))
      (s_cons (s_set 2 sc__law_fraction.nd (e_if (t_cmp (b := true) op_gt d_gt (e_v 1) e_int (nomark _)) (e_v 2) (e_op op_sub d_sub e_int (e_v 2))))
      (s_one (s_ret (e_tup (a_cons (e_op op_fd d_fd (e_v 0) (e_v 2)) (a_cons (e_op op_fd d_fd (e_v 1) (e_v 2)) a_nil)))))))), fun ds R hl hF => ?_⟩
  match ds, hl, hF with
  | [.int p, .int q], _, ⟨⟨hq, h1, h2⟩, k⟩ =>
    nested_key
    have na : ∀ x : Int, (if x < 0 then -x else x) = (x.natAbs : Int) := fun x => by split <;> omega
    rw [na, na]
    refine ⟨fun m ρ => ∃ a b : Nat, m = b ∧ Nat.gcd a b = Int.gcd p q ∧ ρ = [.val (.int p), .val (.int q), .val (.int a), .val (.int b)], ⟨_, _, _, rfl, rfl, rfl⟩, fun m ρ h => ?_⟩
    obtain ⟨a, b, rfl, hg, rfl⟩ := h
    nested_key
    by_cases hb : (0 : Int) < (m : Int)
    · rw [if_pos hb]
      refine ⟨by omega, a % m, Nat.mod_lt _ (by omega), m, a % m, rfl, ?_, ?_⟩
      · rw [← hg, Nat.gcd_comm a m, Nat.gcd_rec m a, Nat.gcd_comm]
      · rw [Int.fmod_eq_emod_of_nonneg _ (by omega)]; rfl
    · rw [if_neg hb]
      have e0 : m = 0 := by omega
      subst e0
      rw [Nat.gcd_zero_right] at hg
      have hG := frG_ne (p := p) hq
      unfold frD fr at k
      unfold frG at k hG
      by_cases h : q > 0
      · rw [if_pos h] at k hG ⊢
        rw [hg]
        exact ⟨cfd (a := 0) hG h1, cfd (a := 0) hG h2, k⟩
      · rw [if_neg h] at k hG ⊢
        rw [hg, Int.zero_sub]
        exact ⟨cfd (a := 0) hG h1, cfd (a := 0) hG h2, k⟩

abbrev s__law_by : Stmt := topS 21
theorem sc__law_by : FnScope ["x", "y"] ["x", "y"] (defScope s__law_by) := ⟨rfl, rfl, rfl, by decide +kernel, rfl, by decide +kernel, by decide +kernel⟩
theorem ok__law_by {f : Addr} {fd : FuncData} (T : Txt mg) (F : Fun K "_law_by" "_law_by" s__law_by f fd) (gm : mg "_law_by" = some (.ref f)) (nd : base.NoDigits) (G__law_fraction : Df P w K mg base "_law_fraction" 1 (spD ⟨K, w⟩ 2 F__law_fraction)) : Df P w K mg base "_law_by" 2 (spD ⟨K, w⟩ 2 F__law_by) := by
  refine fn_D F gm sc__law_by rfl (fun _ _ _ _ _ _ us hl => match us, hl with | [_, _], _ => rfl) fun cdv A outer s H E hr => ?_
  refine ⟨_, (s_one (s_ret (k_call (G__law_fraction.up (by decide)) hr (a_cons (e_op (kMul ⟨K, w⟩) d_mulA (e_ix (kIxU ⟨K, w⟩) d_ixU (e_v 0) e_int (fun _ _ => rfl)) (e_ix (kIxU ⟨K, w⟩) d_ixU (e_v 1) e_int (fun _ _ => rfl))) (a_cons (e_op (kMul ⟨K, w⟩) d_mulA (e_ix (kIxU ⟨K, w⟩) d_ixU (e_v 0) e_int (fun _ _ => rfl)) (e_ix (kIxU ⟨K, w⟩) d_ixU (e_v 1) e_int (fun _ _ => rfl))) a_nil))))), fun ds R hl hF => ?_⟩
  match ds, hl, hF with
  | [.tup [.int p, .int q], .tup [.int r, .int s]], _, ⟨⟨h1, h2, h3, h4, h5⟩, k⟩ =>
    nested_key
    exact ⟨mulW h1 h3 (by decide), mulW h2 h4 (by decide), ⟨h5, (h1.mul h3).mono (by decide), (h2.mul h4).mono (by decide)⟩, k⟩

abbrev s__law_drawn_mean : Stmt := topS 22
theorem sc__law_drawn_mean : FnScope ["source", "kinds", "most", "many", "found", "turn", "powers", "kind"] ["source", "kinds", "most", "many"] (defScope s__law_drawn_mean) := ⟨rfl, rfl, rfl, by decide +kernel, rfl, by decide +kernel, by decide +kernel⟩
theorem ok__law_drawn_mean {f : Addr} {fd : FuncData} (T : Txt mg) (F : Fun K "_law_drawn_mean" "_law_drawn_mean" s__law_drawn_mean f fd) (gm : mg "_law_drawn_mean" = some (.ref f)) (nd : base.NoDigits) (G__law_pick : Df P w K mg base "_law_pick" 1 (spS ⟨K, w⟩ 1 F__law_pick)) (G__law_of : Df P w K mg base "_law_of" 2 (spS ⟨K, w⟩ 1 F__law_of)) : Df P w K mg base "_law_drawn_mean" 3 (spS ⟨K, w⟩ 3 F__law_drawn_mean) := by
  refine fn_S F gm sc__law_drawn_mean rfl (fun _ _ _ _ _ _ us hl => match us, hl with | [_, _, _, _], _ => rfl) fun cdv A outer s H E hr => ?_
  refine ⟨_, (s_cons (s_setO 4 sc__law_drawn_mean.nd (k_dict0 ⟨K, w⟩))
      (s_cons (s_for PassesOwn.never rfl (i_range1 (b := true) T.range (a_cons (k_callS 0 (G__law_pick.up (by decide)) hr (a_cons (e_op (kAdd ⟨K, w⟩) d_addU (e_v 3) e_int) a_nil)) a_nil)) (g_name 5 sc__law_drawn_mean.nd) (s_cons (s_set 6 sc__law_drawn_mean.nd (e_ty (kTuple ⟨K, w⟩) d_tuple (by rfl) T.tuple (by decide +kernel) (a_cons (DF.de (e_lc [("kind", 7)] rfl sc__law_drawn_mean.nd (i_range1 (b := true) T.range (a_cons (e_v 1) a_nil)) (blkOk_by (own := [("kind", 7)]) rfl) (fun _ _ _ _ _ => (g_name 7 sc__law_drawn_mean.nd)) (fun _ _ _ _ _ => (k_callS 0 (G__law_pick.up (by decide)) hr (a_cons (e_op (kAdd ⟨K, w⟩) d_addU (e_v 2) e_int) a_nil))))) a_nil)))
      (s_one (s_put 4 hr.u70 (e_v 6) (k_callS 0 (G__law_of.up (by decide)) hr (a_cons (DF.de (e_lst (a_cons e_int (a_cons (e_un un_neg d_neg e_int) (a_cons e_int (a_cons (e_un un_neg d_neg e_int) (a_cons e_int (a_cons (e_op (kAdd ⟨K, w⟩) d_addU e_int (k_callS 0 (G__law_pick.up (by decide)) hr (a_cons (e_op op_pow d_pow e_int e_int) a_nil))) a_nil)))))))) a_nil))))))
      (s_one (s_melt 4 (s_ret (e_ty (kTuple ⟨K, w⟩) d_tuple (by rfl) T.tuple (by decide +kernel) (a_cons (DF.de (k_sortIt ⟨K, w⟩ rfl hr.u70 T.sorted (e_v 4))) a_nil))))))), fun ds R hl hF => ?_⟩
  match ds, hl, hF with
  | [x, y, z], _, h =>
    obtain ⟨n, b, c6, rfl, rfl, rfl, h6, h1, h2, h3, q⟩ := h
    nested_key
    refine ⟨trivial, Nat.lt_of_lt_of_le (m := 2 ^ 10) (by omega) (Nat.pow_le_pow_right (by decide) (by decide)), fun t ht0 ht => ?_⟩
    nested_key
    have htn : t.toNat ≤ 6 := by omega
    refine ⟨by omega, fun k ρ => k ≤ t.toNat ∧ ∃ as x y z, ρ = [.src, .val (.int n), .val (.int b), .val (.int c6), .own (.dN (encA as)), x, y, z] ∧ DrawnA n b k as, ⟨Nat.zero_le _, [], _, _, _, rfl, ⟨.nil, by simp, by simp⟩⟩, fun k ρ d hd h => ?_, fun ρ h => ?_⟩
    · obtain ⟨hk, as, x, y, z, rfl, hA⟩ := h
      have hk' : k < t.toNat := by
        have := (List.getElem?_eq_some_iff.mp hd).1
        simpa [rangeD] using this
      nested_key
      refine ⟨by omega, fun k acc => ∃ l : List Int, acc = l.map D.int ∧ l.length = k ∧ ∀ p ∈ l, 0 ≤ p ∧ p ≤ b, ⟨[], rfl, rfl, by simp⟩, fun k acc d hd h => ?_, fun acc h => ?_⟩
      · obtain ⟨l, rfl, hl1, hl2⟩ := h
        nested_key
        refine ⟨trivial, Nat.lt_of_lt_of_le (m := 2 ^ 10) (by omega) (Nat.pow_le_pow_right (by decide) (by decide)), fun r hr0 hr => ⟨l ++ [r], by simp, by simp [hl1], fun p hp => ?_⟩⟩
        rcases List.mem_append.mp hp with hp | hp
        · exact hl2 p hp
        · rw [List.mem_singleton.mp hp]; omega
      · obtain ⟨l, rfl, hl1, hl2⟩ := h
        have hl1' : l.length = n := by rw [hl1]; simp [rangeD]
        refine ⟨trivial, trivial, by unfold CPow; decide, by decide, fun r hr0 hr => ?_⟩
        nested_key
        refine ⟨⟨by simp, by simp⟩, fun c hc => ?_⟩
        have hr' : r < 1000000 ∨ r = 0 := by simpa using hr
        obtain ⟨v, rfl, hv0, hv⟩ : ∃ v : Int, c = .int v ∧ v ≠ 0 ∧ small 30 v := by
          have hsm : ∀ v : Int, v.natAbs ≤ 1000000 → small 30 v := fun v h => Nat.lt_of_le_of_lt h (by decide)
          simp only [List.mem_cons, List.not_mem_nil, or_false] at hc
          rcases hc with rfl | rfl | rfl | rfl | rfl | rfl
          · exact ⟨_, rfl, by decide, hsm _ (by decide)⟩
          · exact ⟨_, rfl, by decide, hsm _ (by decide)⟩
          · exact ⟨_, rfl, by decide, hsm _ (by decide)⟩
          · exact ⟨_, rfl, by decide, hsm _ (by decide)⟩
          · exact ⟨_, rfl, by decide, hsm _ (by decide)⟩
          · exact ⟨_, rfl, by omega, hsm _ (by omega)⟩
        refine ⟨nk l, nk_ok l, ?_, hk', _, _, _, _, by rw [putN_enc], hA.put hl1' hl2 hv0 hv⟩
        unfold encA
        rw [List.length_map]
        exact Nat.lt_of_le_of_lt hA.len (Nat.lt_of_le_of_lt (m := 6) (by omega) (by decide))
    · obtain ⟨hk, as, x, y, z, rfl, hA⟩ := h
      nested_key
      have e : (rangeD 0 t.toNat).length = t.toNat := by simp [rangeD]
      rw [e] at hA
      rw [items_enc, sortD_rows]
      exact ⟨sortOk_rows (Nat.le_trans hA.len (by omega)), q _ (hA.sort htn)⟩

abbrev s__law_power : Stmt := topS 23
theorem sc__law_power : FnScope ["n", "p", "found", "turn"] ["n", "p"] (defScope s__law_power) := ⟨rfl, rfl, rfl, by decide +kernel, rfl, by decide +kernel, by decide +kernel⟩
theorem ok__law_power {f : Addr} {fd : FuncData} (T : Txt mg) (F : Fun K "_law_power" "_law_power" s__law_power f fd) (gm : mg "_law_power" = some (.ref f)) (nd : base.NoDigits)  : Df P w K mg base "_law_power" 1 (spD ⟨K, w⟩ 2 F__law_power) := by
  refine fn_D F gm sc__law_power rfl (fun _ _ _ _ _ _ us hl => match us, hl with | [_, _], _ => rfl) fun cdv A outer s H E hr => ?_
  refine ⟨_, (s_cons (s_set 2 sc__law_power.nd e_int)
      (s_cons (s_for PassesOwn.never rfl (i_range1 (b := true) T.range (a_cons (e_v 1) a_nil)) (g_name 3 sc__law_power.nd) (s_one (s_set 2 sc__law_power.nd (e_op (kMul ⟨K, w⟩) d_mulA (e_v 2) (e_v 0)))))
      (s_one (s_ret (e_v 2))))), fun ds R hl hF => ?_⟩
  match ds, hl, hF with
  | [.int a, .int k], _, ⟨⟨hm, h1, h2⟩, q⟩ =>
    nested_key
    refine ⟨⟨by omega, by omega⟩, fun i ρ => i ≤ k.toNat ∧ ∃ y, ρ = [.val (.int a), .val (.int k), .val (.int (a ^ i)), y], ⟨Nat.zero_le _, .emp, by rw [Int.pow_zero]⟩, fun i ρ d hd h => ?_, fun ρ h => ?_⟩
    · obtain ⟨hi, y, rfl⟩ := h
      have hi' : i < k.toNat := by
        have := (List.getElem?_eq_some_iff.mp hd).1
        simpa [rangeD] using this
      nested_key
      exact ⟨mulW (hm.pow i) hm (by have : 500 * i ≤ 500 * 1000 := Nat.mul_le_mul_left _ (by omega); omega), hi', _, by rw [Int.pow_succ]⟩
    · obtain ⟨hi, y, rfl⟩ := h
      have e : (rangeD 0 k.toNat).length = k.toNat := by simp [rangeD]
      nested_key
      rw [e]
      exact q

abbrev s__law_mean_at : Stmt := topS 24
theorem sc__law_mean_at : FnScope ["mean", "sizes", "top", "bottom", "greatest", "kind", "n", "powers", "number", "most", "p"] ["mean", "sizes"] (defScope s__law_mean_at) := ⟨rfl, rfl, rfl, by decide +kernel, rfl, by decide +kernel, by decide +kernel⟩
theorem ok__law_mean_at {f : Addr} {fd : FuncData} (T : Txt mg) (F : Fun K "_law_mean_at" "_law_mean_at" s__law_mean_at f fd) (gm : mg "_law_mean_at" = some (.ref f)) (nd : base.NoDigits) (G__law_fraction : Df P w K mg base "_law_fraction" 1 (spD ⟨K, w⟩ 2 F__law_fraction)) (G__law_power : Df P w K mg base "_law_power" 1 (spD ⟨K, w⟩ 2 F__law_power)) : Df P w K mg base "_law_mean_at" 2 (spD ⟨K, w⟩ 2 F__law_mean_at) := by
  refine fn_D F gm sc__law_mean_at rfl (fun _ _ _ _ _ _ us hl => match us, hl with | [_, _], _ => rfl) fun cdv A outer s H E hr => ?_
  refine ⟨_, (s_cons (s_par3O 2 3 4 rfl sc__law_mean_at.nd e_int e_int (e_lst a_nil))
      (s_cons (s_for PassesOwn.never rfl (ki_e ⟨K, w⟩ T.enumerate (a_cons (e_v 1) a_nil)) (kg_tup ⟨K, w⟩ 2 rfl (gs_cons (g_name 5 sc__law_mean_at.nd) (gs_cons (g_name 6 sc__law_mean_at.nd) gs_nil))) (s_cons (s_app 4 (k_max ⟨K, w⟩ rfl T.max (a_cons (e_op (kAdd ⟨K, w⟩) d_addU (DF.de (e_lc [("powers", 7), ("number", 8)] rfl sc__law_mean_at.nd (ki_seq ⟨K, w⟩ (e_v 0)) (blkOk_by (own := [("powers", 7), ("number", 8)]) rfl) (fun _ _ _ _ _ => (kg_tup ⟨K, w⟩ 2 rfl (gs_cons (g_name 7 sc__law_mean_at.nd) (gs_cons (g_name 8 sc__law_mean_at.nd) gs_nil)))) (fun _ _ _ _ _ => (e_ix (kIxU ⟨K, w⟩) d_ixU (e_v 7) (e_v 5) (fun _ _ => rfl))))) (DF.de (e_lst (a_cons e_int a_nil)))) a_nil)))
      (s_one (s_set 3 sc__law_mean_at.nd (e_op (kMul ⟨K, w⟩) d_mulA (e_v 3) (DE.immF (k_call (G__law_power.up (by decide)) hr (a_cons ((e_v 6)).bor (a_cons (e_ix (kIxU ⟨K, w⟩) d_ixU (e_b 4) ((e_v 5)).bor (fun _ _ => rfl)) a_nil)))))))))
      (s_cons (s_melt 4 (s_for PassesOwn.never rfl (ki_seq ⟨K, w⟩ (e_v 0)) (kg_tup ⟨K, w⟩ 2 rfl (gs_cons (g_name 7 sc__law_mean_at.nd) (gs_cons (g_name 8 sc__law_mean_at.nd) gs_nil))) (s_cons (s_for PassesOwn.never rfl (ki_z3 ⟨K, w⟩ (b := true) T.zip (a_cons (e_v 1) (a_cons (e_v 4) (a_cons (e_v 7) a_nil)))) (kg_tup ⟨K, w⟩ 3 rfl (gs_cons (g_name 6 sc__law_mean_at.nd) (gs_cons (g_name 9 sc__law_mean_at.nd) (gs_cons (g_name 10 sc__law_mean_at.nd) gs_nil)))) (s_one (s_set 8 sc__law_mean_at.nd (e_op (kMul ⟨K, w⟩) d_mulA (e_v 8) (k_call (G__law_power.up (by decide)) hr (a_cons (e_v 6) (a_cons (e_op op_sub d_sub (e_v 9) (e_v 10)) a_nil)))))))
      (s_one (s_set 2 sc__law_mean_at.nd (e_op (kAdd ⟨K, w⟩) d_addU (e_v 2) (e_v 8)))))))
      (s_one (s_ret (k_call (G__law_fraction.up (by decide)) hr (a_cons (e_v 2) (a_cons (e_v 3) a_nil)))))))), fun ds R hl hF => ?_⟩
  match ds, hl, hF with
  | [x, y], _, h =>
    obtain ⟨m, s, rfl, rfl, hs, hm, q⟩ := h
    have hrow : ∀ r ∈ m, r.1.length = s.length ∧ ∀ p ∈ r.1, 0 ≤ p ∧ p ≤ 40 := fun r hr => ⟨(hm.row r hr).1, (hm.row r hr).2.1⟩
    have hbel := great_below hrow
    have hs1 : ∀ x ∈ s, 1 ≤ x := fun x hx => (hs.2 x hx).1
    have hs2 : ∀ x ∈ s, small 101 x := fun x hx => (hs.2 x hx).2
    have hgl : (great s.length m).length = s.length := great_len
    have hge : ∀ i, i < s.length → (great s.length m)[i]? = some ((m.map fun r => r.1.getD i 0).foldl max 0) := fun i hi => by
      unfold great
      rw [List.getElem?_map, List.getElem?_range hi]; rfl
    have hg : ∀ p ∈ great s.length m, 0 ≤ p ∧ p ≤ 40 := fun p hp => by
      obtain ⟨i, hi, rfl⟩ := K49.mem_getD hp
      exact great_le hrow i (by rw [great_len] at hi; exact hi)
    generalize hG : great s.length m = g at *
    unfold mD kD
    nested_key
    refine ⟨immK s, fun k ρ => (∃ a b c d e f, ρ = [.val (.tup (m.map rowD)), .val (.tup (s.map D.int)), .val (.int 0), .val (.int (((s.zip g).take k).foldl (fun x p => x * p.1 ^ p.2.toNat) 1)), .own (.lst ((g.take k).map D.int)), a, b, c, d, e, f]) ∧ small (4042 * k + 1) (((s.zip g).take k).foldl (fun x p => x * p.1 ^ p.2.toNat) 1), ⟨⟨_, _, _, _, _, _, rfl⟩, by unfold small; simp⟩, fun k ρ d hd h => ?_, fun ρ h => ?_⟩
    · obtain ⟨⟨a, b, c, d, e, f, rfl⟩, ht⟩ := h
      obtain ⟨n, hn, rfl⟩ := enum_get hd
      have hk : k < s.length := (List.getElem?_eq_some_iff.mp hn).1
      have hnm := hs2 n (List.mem_of_getElem? hn)
      have hgk := hge k hk
      have hz : (s.zip g)[k]? = some (n, (m.map fun r => r.1.getD k 0).foldl max 0) := by rw [List.getElem?_zip_eq_some]; exact ⟨hn, hgk⟩
      obtain ⟨hg0, hg1⟩ := hg _ (List.mem_of_getElem? hgk)
      rw [Nat.zero_add]
      nested_key
      refine ⟨trivial, fun k' acc => acc = ((m.take k').map fun r => r.1.getD k 0).map D.int, rfl, fun k' acc d hd h => ?_, fun acc h => ?_⟩
      · subst h
        obtain ⟨r, hr, rfl⟩ := of_map hd
        rw [rowD_e r]
        nested_key
        refine ⟨trivial, ?_⟩
        rw [kD_get (by rw [(hrow r (List.mem_of_getElem? hr)).1]; exact hk)]
        nested_key
        rw [take_map hr, List.map_append]; rfl
      · subst h
        rw [show (m.map rowD).length = m.length from List.length_map .., List.take_length]
        obtain ⟨n0, ns, e0⟩ := snoc_cons (m.map fun r => r.1.getD k 0) 0
        refine ⟨?_, n0, ns, ?_, ?_⟩
        · have := hm.len
          simp only [List.length_map]
          exact Nat.le_trans (m := 61) (by omega) (by decide)
        · exact (List.map_append (f := D.int) (l₁ := m.map fun r => r.1.getD k 0) (l₂ := [0])).symm.trans (by rw [e0, List.map_cons])
        rw [maxL_zero (fun x hx => by
          obtain ⟨r, hr, rfl⟩ := List.mem_map.mp hx
          obtain ⟨e1, hp⟩ := hrow r hr
          exact (hp _ (K49.getD_mem (by omega))).1) e0.symm]
        generalize hM : (m.map fun r => r.1.getD k 0).foldl max 0 = M at *
        have eg : (g.take k).map D.int ++ [D.int M] = (g.take (k + 1)).map D.int := (take_map hgk).symm
        have ea : atI ((g.take (k + 1)).map D.int) (k : Int) = some (.int M) := atI_nat (by rw [List.getElem?_map, List.getElem?_take, if_pos (by omega), hgk]; rfl)
        rw [eg, ea]
        nested_key
        have hp : small 4041 (n ^ M.toNat) := (small.pow hnm M.toNat).mono (by omega)
        have h3 := hs.1
        refine ⟨?_, ⟨hnm.mono (by decide), by omega, by omega⟩, ?_⟩
        · rw [List.length_map, List.length_take]
          exact Nat.lt_of_le_of_lt (m := 3) (by omega) (by decide)
        refine ⟨rfl, mulW ht hp (by omega), ⟨_, _, _, _, _, _, by rw [take_step hz]⟩, ?_⟩
        rw [take_step hz]
        exact (ht.mul hp).mono (by omega)
    · obtain ⟨⟨a, b, c, d, e, f, rfl⟩, ht⟩ := h
      rw [enum_len, show (s.zip g).take s.length = s.zip g from List.take_of_length_le (by rw [List.length_zip]; omega), show g.take s.length = g from List.take_of_length_le (by omega), pw_zip, Int.one_mul] at *
      nested_key
      refine ⟨fun k ρ => (∃ x y a b c d, ρ = [.val (.tup (m.map rowD)), .val (.tup (s.map D.int)), .val (.int (tot s g (m.take k))), .val (.int (pw s g)), .val (.lst (g.map D.int)), x, y, a, b, c, d]) ∧ small (12340 + k) (tot s g (m.take k)), ⟨⟨_, _, _, _, _, _, rfl⟩, by unfold small tot; simp⟩, fun k ρ d hd h => ?_, fun ρ h => ?_⟩
      · obtain ⟨⟨x, y, a, b, c, d, rfl⟩, ht⟩ := h
        obtain ⟨r, hr, rfl⟩ := of_map hd
        have hrm := List.mem_of_getElem? hr
        obtain ⟨hr1, hr2⟩ := hrow r hrm
        have hr3 := (hm.row r hrm).2.2
        have hb := hbel r hrm
        obtain ⟨hb1, hb2⟩ := hb.sub
        have hp : small 12127 (pw s (psub g r.1)) := pw_small3 hs.1 hs2 hb2
        have hst : tot s g (m.take (k + 1)) = tot s g (m.take k) + r.2 * pw s (psub g r.1) := by unfold tot; rw [take_step hr]
        rw [rowD_e r]
        nested_key
        rw [zip3_map]
        refine ⟨trivial, ⟨immK s, immK g, immK r.1⟩, fun j ρ => (∃ y z u v w, ρ = [.val (.tup (m.map rowD)), .val (.tup (s.map D.int)), .val (.int (tot s g (m.take k))), .val (.int (pw s g)), .val (.lst (g.map D.int)), y, z, u, .val (.int (((s.zip (g.zip r.1)).take j).foldl (fun x p => x * p.1 ^ (p.2.1 - p.2.2).toNat) r.2)), v, w]) ∧ small (4042 * j + 201) (((s.zip (g.zip r.1)).take j).foldl (fun x p => x * p.1 ^ (p.2.1 - p.2.2).toNat) r.2), ⟨⟨_, _, _, _, _, rfl⟩, hr3.mono (by omega)⟩, fun j ρ d hd h => ?_, fun ρ h => ?_⟩
        · obtain ⟨⟨y, z, u, v, w, rfl⟩, ht2⟩ := h
          obtain ⟨p, hpz, rfl⟩ := of_map hd
          have hpm := List.mem_of_getElem? hpz
          have hj : j < 3 := by
            have := (List.getElem?_eq_some_iff.mp hpz).1
            rw [List.length_zip] at this
            have := hs.1
            omega
          have hpn := hs2 _ (List.of_mem_zip hpm).1
          obtain ⟨hq0, hq1⟩ := hb2 _ (List.mem_map.mpr ⟨_, (List.of_mem_zip hpm).2, rfl⟩)
          nested_key
          have hp1 : small 4041 (p.1 ^ (p.2.1 - p.2.2).toNat) := (small.pow hpn _).mono (by omega)
          refine ⟨trivial, ⟨hpn.mono (by decide), by omega, by omega⟩, ?_⟩
          nested_key
          refine ⟨mulW ht2 hp1 (by omega), ⟨_, _, _, _, _, by rw [take_step hpz]⟩, ?_⟩
          rw [take_step hpz]
          exact (ht2.mul hp1).mono (by omega)
        · obtain ⟨⟨y, z, u, v, w, rfl⟩, ht2⟩ := h
          rw [List.length_map, List.take_length, pw_zip3]
          nested_key
          refine ⟨⟨_, _, _, _, _, _, by rw [hst]⟩, ?_⟩
          rw [hst]
          exact (ht.add ((hr3.mul hp).mono (by omega))).mono (by omega)
      · obtain ⟨⟨x, y, a, b, c, d, rfl⟩, ht⟩ := h
        rw [List.length_map, List.take_length] at *
        nested_key
        have hne := pw_ne (k := g) hs1
        refine ⟨⟨by omega, ht.mono (by have := hm.len; omega), (pw_small3 hs.1 hs2 hg).mono (by omega)⟩, ?_⟩
        rw [fr_frac (by omega), tot_val hs1 hbel]
        exact q

abbrev s__law_bent : Stmt := topS 25
theorem sc__law_bent : FnScope ["source", "value", "odd", "k", "way"] ["source", "value", "odd"] (defScope s__law_bent) := ⟨rfl, rfl, rfl, by decide +kernel, rfl, by decide +kernel, by decide +kernel⟩
theorem ok__law_bent {f : Addr} {fd : FuncData} (T : Txt mg) (F : Fun K "_law_bent" "_law_bent" s__law_bent f fd) (gm : mg "_law_bent" = some (.ref f)) (nd : base.NoDigits) (n0 : Nat) (G__law_bent : Df P w K mg base "_law_bent" (2 + n0) (spS ⟨K, w⟩ 2 (FR__law_bent n0))) (G__law_pick : Df P w K mg base "_law_pick" 1 (spS ⟨K, w⟩ 1 F__law_pick)) (G__law_of : Df P w K mg base "_law_of" 2 (spS ⟨K, w⟩ 1 F__law_of)) : Df P w K mg base "_law_bent" (2 + n0 + 1) (spS ⟨K, w⟩ 2 (FR__law_bent (n0 + 1))) := by
  refine fn_S F gm sc__law_bent rfl (fun _ _ _ _ _ _ us hl => match us, hl with | [_, _, _], _ => rfl) fun cdv A outer s H E hr => ?_
  refine ⟨_, (s_cons (s_if (DW.t (w_and (t_val (b := true) (k_isi (b := true) (b' := true) ⟨K, w⟩ is_int (e_v 1) T.isinstance T.int (by rfl))) (w_and (t_not (t_val (b := true) (k_isi (b := true) (b' := true) ⟨K, w⟩ is_bool (e_v 1) T.isinstance T.bool (by rfl)))) (w_and1 (t_cmp (b := true) op_gt d_gt (k_callS 0 (G__law_pick.up (by omega)) hr (a_cons e_int a_nil)) e_int (nomark _)))))) (s_one (s_ret (e_op (kAdd ⟨K, w⟩) d_addU (e_v 1) (k_callS 0 (G__law_of.up (by omega)) hr (a_cons (DF.de (e_lst (a_cons e_int (a_cons (e_un un_neg d_neg e_int) (a_cons e_int a_nil))))) a_nil))))) s_nil)
      (s_cons (s_if (DW.t (w_or (t_not (t_val (b := true) (k_isi (b := true) (b' := true) ⟨K, w⟩ is_tuple (e_v 1) T.isinstance T.tuple (by rfl)))) (w_or (t_cmp (b := true) (kEq ⟨K, w⟩ hr.u64) d_eqD (e_v 1) (e_tup a_nil) (nomark _)) (w_or1 (t_cmp (b := true) (kEq ⟨K, w⟩ hr.u64) d_eqD (k_callS 0 (G__law_pick.up (by omega)) hr (a_cons e_int a_nil)) e_int (nomark _)))))) (s_one (s_ret (k_callS 0 (G__law_of.up (by omega)) hr (a_cons (e_v 2) a_nil)))) s_nil)
      (s_cons (s_par 3 4 rfl sc__law_bent.nd (a_cons (k_callS 0 (G__law_pick.up (by omega)) hr (a_cons (e_bi (kLen ⟨K, w⟩) d_len (by rfl) T.len (by decide +kernel) (a_cons (e_v 1) a_nil)) a_nil)) (a_cons (k_callS 0 (G__law_pick.up (by omega)) hr (a_cons e_int a_nil)) a_nil)))
      (s_cons (s_if (t_cmp (b := true) op_lt d_lt (e_v 4) e_int (nomark _)) (s_one (s_ret (e_op (kAdd ⟨K, w⟩) d_addU (e_op (kAdd ⟨K, w⟩) d_addU (k_sl (b := true) ⟨K, w⟩ (e_v 1) o_none (o_some (b := true) (e_v 3))) (e_tup (a_cons (k_callS 0 (G__law_bent.up (by omega)) hr (a_cons (e_ix (kIxU ⟨K, w⟩) d_ixU (e_v 1) (e_v 3) (fun _ _ => rfl)) (a_cons (e_v 2) a_nil))) a_nil))) (k_sl (b := true) ⟨K, w⟩ (e_v 1) (o_some (b := true) (e_op (kAdd ⟨K, w⟩) d_addU (e_v 3) e_int)) o_none)))) s_nil)
      (s_one (s_ret (e_ix (kIxU ⟨K, w⟩) d_ixU (DF.de (e_lst (a_cons (e_op (kAdd ⟨K, w⟩) d_addU (k_sl (b := true) ⟨K, w⟩ (e_v 1) o_none (o_some (b := true) (e_v 3))) (k_sl (b := true) ⟨K, w⟩ (e_v 1) (o_some (b := true) (e_op (kAdd ⟨K, w⟩) d_addU (e_v 3) e_int)) o_none)) (a_cons (e_op (kAdd ⟨K, w⟩) d_addU (k_sl (b := true) ⟨K, w⟩ (e_v 1) o_none (o_some (b := true) (e_op (kAdd ⟨K, w⟩) d_addU (e_v 3) e_int))) (k_sl (b := true) ⟨K, w⟩ (e_v 1) (o_some (b := true) (e_v 3)) o_none)) (a_cons (DF.de (k_list ⟨K, w⟩ T.list (a_cons (e_v 1) a_nil))) a_nil))))) (e_op op_sub d_sub (e_v 4) e_int) (fun _ _ => rfl)))))))), fun ds R hl hF => ?_⟩
  match ds, hl, hF with
  | [v, o], _, h =>
    obtain ⟨os, hn50, rfl, hv, ⟨ho1, ho2, ho3⟩, q⟩ := h
    show rSeq _ _ _ [.src, .val v, .val (.lst os), .emp, .emp]
    have odd : ∀ x ∈ os, R x := fun x hx => q x ((ho3 x hx).mono (HB_le _) (by omega))
    have small3 : ∀ {m : Nat}, m ≤ 1000 → (m : Int).natAbs < 2 ^ 8000 := fun h => Nat.lt_of_lt_of_le (m := 2 ^ 10) (by omega) (Nat.pow_le_pow_right (by decide) (by decide))
    refine seq_hide fun K1 hK1 => ?_
    nested_key
    refine ⟨ib_noN hv.ib, ?_⟩
    rcases hv.form with ⟨i, rfl, hi⟩ | ⟨m, xs, rfl, rfl, hz, hx⟩
    · have fin1 : K1 [Sl.src, Sl.val (.int i), Sl.val (D.lst os), Sl.emp, Sl.emp] := by
        refine hK1 _ ?_
        refine seq_hide fun K2 hK2 => ?_
        nested_key
        refine ⟨rfl, ?_⟩
        rw [if_pos (by rfl)]
        exact ⟨trivial, ⟨ho1, ho2⟩, odd⟩
      rw [if_pos (by rfl)]
      refine ⟨rfl, ?_⟩
      rw [if_pos (by rfl)]
      refine ⟨trivial, small3 (m := 3) (by decide), fun r h0 h1 => ?_⟩
      show (if 0 < r then _ else _)
      by_cases hr : 0 < r
      · rw [if_pos hr]
        refine ⟨trivial, ⟨by simp, by simp⟩, fun d hd => ?_⟩
        have add : ∀ j : Int, j.natAbs ≤ 2 → R (.int (i + j)) := fun j hj => q _ (HB_het (show small 102 (i + j) by
          unfold small at *
          have h3 : (i + j).natAbs ≤ i.natAbs + j.natAbs := Int.natAbs_add_le i j
          have h4 : (2 : Nat) ^ 102 = 4 * 2 ^ 100 := by decide +kernel
          have h5 : 1 ≤ (2 : Nat) ^ 100 := Nat.pow_pos (by decide)
          omega))
        simp only [List.mem_cons, List.not_mem_nil, or_false] at hd
        rcases hd with rfl | rfl | rfl
        · exact add 1 (by decide)
        · exact add (-1) (by decide)
        · exact add 2 (by decide)
      · rw [if_neg hr]
        exact fin1
    · rw [if_neg (by simp [isIntB])]
      rw [if_neg (by decide)]
      refine hK1 _ ?_
      clear hK1
      refine seq_hide fun K2 hK2 => ?_
      nested_key
      have he := hv.eqOk (by omega)
      refine ⟨rfl, ?_⟩
      rw [if_neg (by simp [isTupB])]
      refine ⟨⟨he, rfl⟩, ?_⟩
      rw [eqD_nil]
      by_cases h0 : xs = []
      · rw [if_pos (by simp [h0])]
        exact ⟨trivial, ⟨ho1, ho2⟩, odd⟩
      · rw [if_neg (by simp [h0])]
        have hl0 := List.length_pos_iff.mpr h0
        refine ⟨trivial, small3 (m := 7) (by decide), fun r h1 h2 => ⟨⟨rfl, rfl⟩, ?_⟩⟩
        rw [eqD_int]
        by_cases hr : r = 0
        · rw [if_pos (by simp [hr])]
          exact ⟨trivial, ⟨ho1, ho2⟩, odd⟩
        · rw [if_neg (by simp [hr])]
          refine hK2 _ ?_
          clear hK2
          refine seq_hide fun K3 hK3 => ?_
          nested_key
          refine ⟨trivial, small3 (by omega), fun k hk0 hk1 => ⟨trivial, small3 (m := 8) (by decide), fun way hw0 hw1 => ?_⟩⟩
          refine hK3 _ ?_
          clear hK3
          refine seq_hide fun K4 hK4 => ?_
          nested_key
          have hx' : ∀ x ∈ xs, Het (HB m) (10 + m) x := fun x h => (hx x h).het.mono (Nat.le_refl _) (by omega)
          have hcut : ∀ l u, ∀ x ∈ DL.cutD xs l u, Het (HB m) (10 + m) x := fun l u x h => hx' x (cut_mem x h)
          have hcl : ∀ l u, (DL.cutD xs l u).length ≤ 6 := fun l u => Nat.le_trans cut_len hz
          have z100 : ∀ {n : Nat}, n ≤ 1000 → n ≤ sizeLine := fun h => Nat.le_trans h (by decide)
          have hk2 : k < xs.length := by omega
          by_cases hw : way < 5
          · rw [if_pos hw]
            have hke : k = (k.toNat : Int) := by omega
            have hkt : k.toNat < xs.length := by omega
            have hat : atI xs k = some xs[k.toNat] := by
              have := atI_nat (List.getElem?_eq_getElem hkt)
              rw [← hke] at this; exact this
            rw [hat]
            refine ⟨trivial, os, by omega, rfl, hx _ (List.getElem_mem hkt), ⟨ho1, ho2, ho3⟩, fun d hd => ?_⟩
            have l1 := hcl none (some k)
            have l2 := hcl (some (k + 1)) none
            refine ⟨z100 (by omega), z100 (by rw [List.length_append]; simp; omega), q _ (bent_tup (m := m) ?_ (by rw [List.length_append, List.length_append]; simp; omega))⟩
            exact hets_append (hets_append (hcut _ _) (hets_cons hd hets_nil)) (hcut _ _)
          · rw [if_neg hw]
            refine hK4 _ ?_
            clear hK4
            nested_key
            have l1 := hcl none (some k)
            have l2 := hcl (some (k + 1)) none
            have l3 := hcl none (some (k + 1))
            have l4 := hcl (some k) none
            refine ⟨z100 (by omega), z100 (by omega), ?_⟩
            have c1 : R (.tup (DL.cutD xs none (some k) ++ DL.cutD xs (some (k + 1)) none)) := q _ (bent_tup (m := m) (hets_append (hcut _ _) (hcut _ _)) (by rw [List.length_append]; omega))
            have c2 : R (.tup (DL.cutD xs none (some (k + 1)) ++ DL.cutD xs (some k) none)) := q _ (bent_tup (m := m) (hets_append (hcut _ _) (hcut _ _)) (by rw [List.length_append]; omega))
            have c3 : R (.lst xs) := q _ (bent_lst (m := m) hx' (by omega))
            have h3 : way - 5 = 0 ∨ way - 5 = 1 ∨ way - 5 = 2 := by omega
            rcases h3 with e | e | e
            · rw [e, atI_0]; exact c1
            · rw [e, atI_1]; exact c2
            · rw [e, atI_2]; exact c3

abbrev s__law_is_int : Stmt := topS 26
theorem sc__law_is_int : FnScope ["value"] ["value"] (defScope s__law_is_int) := ⟨rfl, rfl, rfl, by decide +kernel, rfl, by decide +kernel, by decide +kernel⟩
theorem ok__law_is_int {f : Addr} {fd : FuncData} (T : Txt mg) (F : Fun K "_law_is_int" "_law_is_int" s__law_is_int f fd) (gm : mg "_law_is_int" = some (.ref f)) (nd : base.NoDigits)  : Df P w K mg base "_law_is_int" 1 (spD ⟨K, w⟩ 1 F__law_is_int) := by
  refine fn_D F gm sc__law_is_int rfl (fun _ _ _ _ _ _ us hl => match us, hl with | [_], _ => rfl) fun cdv A outer s H E hr => ?_
  refine ⟨_, (s_one (s_ret (e_and (k_isi (b := true) (b' := true) ⟨K, w⟩ is_int (e_v 0) T.isinstance T.int (by rfl)) (e_one (e_not (k_isi (b := true) (b' := true) ⟨K, w⟩ is_bool (e_v 0) T.isinstance T.bool (by rfl))))))), fun ds R hl hF => ?_⟩
  match ds, hl, hF with
  | [d], _, h =>
    nested_key
    refine ⟨h.1, ?_⟩
    have e := isI_eq d
    by_cases hi : isIntB d = true
    · rw [if_pos hi] at e ⊢
      exact ⟨h.1, by rw [e]; exact h.2⟩
    · rw [if_neg hi] at e ⊢
      rw [e]
      exact h.2

abbrev s__law_is_mean : Stmt := topS 27
theorem sc__law_is_mean : FnScope ["kinds", "value", "member", "i", "p"] ["kinds", "value"] (defScope s__law_is_mean) := ⟨rfl, rfl, rfl, by decide +kernel, rfl, by decide +kernel, by decide +kernel⟩
theorem ok__law_is_mean {f : Addr} {fd : FuncData} (T : Txt mg) (F : Fun K "_law_is_mean" "_law_is_mean" s__law_is_mean f fd) (gm : mg "_law_is_mean" = some (.ref f)) (nd : base.NoDigits) (G__law_is_int : Df P w K mg base "_law_is_int" 1 (spD ⟨K, w⟩ 1 F__law_is_int)) : Df P w K mg base "_law_is_mean" 2 (spD ⟨K, w⟩ 2 F__law_is_mean) := by
  refine fn_D F gm sc__law_is_mean rfl (fun _ _ _ _ _ _ us hl => match us, hl with | [_, _], _ => rfl) fun cdv A outer s H E hr => ?_
  refine ⟨_, (s_cons (s_if (t_not (t_val (b := true) (k_isi (b := true) (b' := true) ⟨K, w⟩ is_tuple (e_v 1) T.isinstance T.tuple (by rfl)))) (s_one (s_ret e_bl)) s_nil)
      (s_cons (s_for PassesOwn.never rfl (ki_seq ⟨K, w⟩ (e_v 1)) (g_name 2 sc__law_is_mean.nd) (s_cons (s_if (DW.t (w_or (t_not (t_val (b := true) (k_isi (b := true) (b' := true) ⟨K, w⟩ is_tuple (e_v 2) T.isinstance T.tuple (by rfl)))) (w_or (t_cmp (b := true) (kNe ⟨K, w⟩ hr.u64) d_neD (e_bi (kLen ⟨K, w⟩) d_len (by rfl) T.len (by decide +kernel) (a_cons (e_v 2) a_nil)) e_int (nomark _)) (w_or1 (t_not (t_val (b := true) (k_isi (b := true) (b' := true) ⟨K, w⟩ is_tuple (e_ix (kIxU ⟨K, w⟩) d_ixU (e_v 2) e_int (fun _ _ => rfl)) T.isinstance T.tuple (by rfl)))))))) (s_one (s_ret e_bl)) s_nil)
      (s_cons (s_if (DW.t (w_or (t_cmp (b := true) (kNe ⟨K, w⟩ hr.u64) d_neD (e_bi (kLen ⟨K, w⟩) d_len (by rfl) T.len (by decide +kernel) (a_cons (e_ix (kIxU ⟨K, w⟩) d_ixU (e_v 2) e_int (fun _ _ => rfl)) a_nil)) (e_v 0) (nomark _)) (w_or1 (t_cmp (b := true) (kNeE ⟨K, w⟩ hr.u0) d_neE (DF.de (e_lcif [("p", 4)] rfl sc__law_is_mean.nd (ki_seq ⟨K, w⟩ (e_ix (kIxU ⟨K, w⟩) d_ixU (e_v 2) e_int (fun _ _ => rfl))) (blkOk_by (own := [("p", 4)]) rfl) (fun _ _ _ _ _ => (g_name 4 sc__law_is_mean.nd)) (fun _ _ _ _ _ => (DW.t (w_or (t_not (t_val (b := true) (k_call (G__law_is_int.up (by decide)) hr (a_cons (e_v 4) a_nil)))) (w_or1 (t_cmp (b := true) (kLt ⟨K, w⟩ hr.u0) d_ltU (e_v 4) e_int (nomark _)))))) (fun _ _ _ _ _ => (e_v 4)))) (DF.de (e_lst a_nil)) (nomark _))))) (s_one (s_ret e_bl)) s_nil)
      (s_one (s_if (DW.t (w_or (t_not (t_val (b := true) (k_call (G__law_is_int.up (by decide)) hr (a_cons (e_ix (kIxU ⟨K, w⟩) d_ixU (e_v 2) e_int (fun _ _ => rfl)) a_nil)))) (w_or1 (t_cmp (b := true) (kEq ⟨K, w⟩ hr.u64) d_eqD (e_ix (kIxU ⟨K, w⟩) d_ixU (e_v 2) e_int (fun _ _ => rfl)) e_int (nomark _))))) (s_one (s_ret e_bl)) s_nil)))))
      (s_one (s_ret (e_cmp (kEqE ⟨K, w⟩ hr.u0) d_eqE (DF.de (e_lcif [("i", 3)] rfl sc__law_is_mean.nd (i_range2 (b := true) T.range (a_cons e_int (a_cons (e_bi (kLen ⟨K, w⟩) d_len (by rfl) T.len (by decide +kernel) (a_cons (e_v 1) a_nil)) a_nil))) (blkOk_by (own := [("i", 3)]) rfl) (fun _ _ _ _ _ => (g_name 3 sc__law_is_mean.nd)) (fun _ _ _ _ _ => (t_not (t_cmp (b := true) (kLt ⟨K, w⟩ hr.u0) d_ltU (e_ix (kIxU ⟨K, w⟩) d_ixU (e_ix (kIxU ⟨K, w⟩) d_ixU (e_v 1) (e_op op_sub d_sub (e_v 3) e_int) (fun _ _ => rfl)) e_int (fun _ _ => rfl)) (e_ix (kIxU ⟨K, w⟩) d_ixU (e_ix (kIxU ⟨K, w⟩) d_ixU (e_v 1) (e_v 3) (fun _ _ => rfl)) e_int (fun _ _ => rfl)) (nomark _)))) (fun _ _ _ _ _ => (e_v 3)))) (DF.de (e_lst a_nil)) (nomark _)))))), fun ds R hl hF => ?_⟩
  match ds, hl, hF with
  | [x, d], _, h =>
    obtain ⟨n, rfl, hb, hz, q⟩ := h
    show rSeq _ _ _ [.val (.int n), .val d, .emp, .emp, .emp]
    refine seq_hide fun K1 hK1 => ?_
    nested_key
    refine ⟨ib_noN hb, ?_⟩
    cases d with
    | tup xs =>
      rw [if_neg (by simp [isTupB])]
      have hz := hz xs rfl
      have q' : R (D.bl (xs.all (isMem n) && chainB (xs.map keyOf))) := q
      refine hK1 _ ?_
      clear hK1
      refine seq_hide fun K2 hK2 => ?_
      nested_key
      refine ⟨fun k ρ => (∃ z u v, ρ = [.val (.int n), .val (.tup xs), z, u, v]) ∧ (xs.take k).all (isMem n) = true, ⟨⟨_, _, _, rfl⟩, rfl⟩, fun k ρ d hd h => ?_, fun ρ h => ?_⟩
      · obtain ⟨⟨z, u, v, rfl⟩, hall0⟩ := h
        have hbd := ib_mem hb (List.mem_of_getElem? hd)
        have bad : isMem n d = false → R (D.bl false) := fun e => by
          have : xs.all (isMem n) = false := by
            rw [List.all_eq_false]
            exact ⟨d, List.mem_of_getElem? hd, by simp [e]⟩
          rw [this, Bool.false_and] at q'
          exact q'
        nested_key
        refine ⟨ib_noN hbd, ?_⟩
        cases d with
        | tup ys =>
          rw [if_neg (by simp [isTupB])]
          nested_key
          refine ⟨⟨rfl, rfl⟩, ?_⟩
          rw [eqD_int]
          by_cases h2 : (ys.length : Int) = 2
          · rw [if_neg (by simp [h2])]
            obtain ⟨a, b, rfl⟩ := two_of (xs := ys) (by omega)
            have ba := ib_mem hbd (d := a) (by simp)
            have bb := ib_mem hbd (d := b) (by simp)
            nested_key
            refine ⟨ib_noN ba, ?_⟩
            cases a with
            | tup ks =>
              rw [if_neg (by simp [isTupB])]
              nested_key
              refine ⟨⟨rfl, rfl⟩, ?_⟩
              rw [eqD_int]
              by_cases h3 : (ks.length : Int) = n
              · rw [if_neg (by simp [h3])]
                refine ⟨fun k acc => acc = (ks.take k).filter fun d => !isPw d, rfl, fun k acc d hd h => ?_, fun acc h => ?_⟩
                · subst h
                  refine ⟨ib_noN (ib_mem ba (List.mem_of_getElem? hd)), ?_⟩
                  show (if (!isI d) = true then _ else _)
                  by_cases hi : isI d = true
                  · rw [if_neg (by simp [hi])]
                    obtain ⟨p, rfl⟩ := isI_form hi
                    show (if p < 0 then _ else _)
                    by_cases hp : p < 0
                    · have hq : isPw (.int p) = false := decide_eq_false (by omega)
                      rw [if_pos hp]
                      dsimp only
                      rw [filter_step hd]; simp [hq]
                    · have hq : isPw (.int p) = true := decide_eq_true (by omega)
                      rw [if_neg hp]
                      dsimp only
                      rw [filter_step hd]; simp [hq]
                  · have hq : isPw d = false := by
                      cases d with
                      | int p => exact absurd rfl hi
                      | _ => rfl
                    rw [if_pos (by simp [hi])]
                    rw [filter_step hd]; simp [hq]
                · refine ⟨.inr trivial, ?_⟩
                  have hk : acc.length = 0 ↔ ks.all isPw = true := by rw [h, List.take_length]; exact pwFilter
                  by_cases hall : ks.all isPw = true
                  · rw [if_neg (by rw [decide_eq_true (hk.mpr hall)]; decide)]
                    refine ⟨ib_noN bb, ?_⟩
                    show (if (!isI b) = true then _ else _)
                    by_cases hi : isI b = true
                    · rw [if_neg (by simp [hi])]
                      obtain ⟨c, rfl⟩ := isI_form hi
                      refine ⟨⟨rfl, rfl⟩, ?_⟩
                      rw [eqD_int]
                      by_cases hc : c = 0
                      · rw [if_pos (by simp [hc])]
                        exact bad (isMem_val (by simp [isNz, hc]))
                      · rw [if_neg (by simp [hc])]
                        refine ⟨⟨_, _, _, rfl⟩, all_step hd hall0 ?_⟩
                        show ((decide ((ks.length : Int) = n) && ks.all isPw) && !decide (c = 0)) = true
                        rw [decide_eq_true h3, hall, decide_eq_false hc]; rfl
                    · rw [if_pos (by simp [hi])]
                      refine bad (isMem_val ?_)
                      cases b with
                      | int c => exact absurd rfl hi
                      | _ => rfl
                  · rw [if_pos (by rw [decide_eq_false fun z => hall (hk.mp z)]; rfl)]
                    refine bad (isMem_key ?_)
                    show (decide ((ks.length : Int) = n) && ks.all isPw) = false
                    rw [Bool.eq_false_iff.mpr hall, Bool.and_false]
              · rw [if_pos (by simp [h3])]
                refine bad (isMem_key ?_)
                show (decide ((ks.length : Int) = n) && ks.all isPw) = false
                rw [decide_eq_false h3, Bool.false_and]
            | _ =>
              rw [if_pos (by simp [isTupB])]
              exact bad (isMem_key rfl)
          · rw [if_pos (by simp [h2])]
            exact bad (isMem_two h2)
        | _ =>
          rw [if_pos (by simp [isTupB])]
          exact bad rfl
      · obtain ⟨⟨z, u, v, rfl⟩, hall⟩ := h
        rw [List.take_length] at hall
        rw [hall, Bool.true_and] at q'
        refine hK2 _ ?_
        clear hK2
        nested_key
        refine ⟨by omega, ?_⟩
        have hlen : ((xs.length : Int) - 1).toNat = xs.length - 1 := by omega
        rw [hlen]
        refine ⟨fun k acc => acc = (((List.range (xs.length - 1)).take k).filter fun i => !HT.lexLt ((xs.map keyOf).getD i []) ((xs.map keyOf).getD (i + 1) [])).map fun (i : Nat) => D.int (1 + (i : Int)), rfl, fun k acc d hd h => ?_, fun acc h => ?_⟩
        · subst h
          obtain ⟨rfl, hk⟩ := range_int1 hd
          have hk1 : k < xs.length := by omega
          have hk2 : k + 1 < xs.length := by omega
          obtain ⟨d1, g1⟩ : ∃ d1, xs[k]? = some d1 := ⟨_, List.getElem?_eq_getElem hk1⟩
          obtain ⟨d2, g2⟩ : ∃ d2, xs[k + 1]? = some d2 := ⟨_, List.getElem?_eq_getElem hk2⟩
          obtain ⟨k1, c1, e1, f1⟩ := mem_keyed hall g1
          obtain ⟨k2, c2, e2, f2⟩ := mem_keyed hall g2
          have a1 : atI xs (1 + (k : Int) - 1) = some (.tup [.tup (k1.map D.int), .int c1]) := by rw [← e1, show 1 + (k : Int) - 1 = (k : Int) by omega]; exact atI_nat g1
          have a2 : atI xs (1 + (k : Int)) = some (.tup [.tup (k2.map D.int), .int c2]) := by rw [← e2, show 1 + (k : Int) = ((k + 1 : Nat) : Int) by omega]; exact atI_nat g2
          have g3 : (List.range (xs.length - 1))[k]? = some k := List.getElem?_range hk
          nested_key
          rw [a1, a2]
          nested_key
          refine ⟨k1, k2, rfl, rfl, ?_⟩
          rw [filter_step g3, f1, f2]
          by_cases hl : HT.lexLt k1 k2 = true
          · rw [if_neg (by simp [hl])]; simp [hl]
          · rw [if_pos (by simp [hl])]; simp [hl]
        · refine ⟨.inr trivial, ?_⟩
          rw [h, rangeD_len, List.take_of_length_le (by rw [List.length_range]; exact Nat.le_refl _), filter_all]
          have : chainB (xs.map keyOf) = (List.range (xs.length - 1)).all fun i => HT.lexLt ((xs.map keyOf).getD i []) ((xs.map keyOf).getD (i + 1) []) := by
            unfold chainB; rw [List.length_map]
          rw [this] at q'
          exact q'
    | _ =>
      rw [if_pos (by simp [isTupB])]
      exact q

abbrev s__law_is_fraction : Stmt := topS 28
theorem sc__law_is_fraction : FnScope ["value", "x"] ["value"] (defScope s__law_is_fraction) := ⟨rfl, rfl, rfl, by decide +kernel, rfl, by decide +kernel, by decide +kernel⟩
theorem ok__law_is_fraction {f : Addr} {fd : FuncData} (T : Txt mg) (F : Fun K "_law_is_fraction" "_law_is_fraction" s__law_is_fraction f fd) (gm : mg "_law_is_fraction" = some (.ref f)) (nd : base.NoDigits) (G__law_fraction : Df P w K mg base "_law_fraction" 1 (spD ⟨K, w⟩ 2 F__law_fraction)) (G__law_is_int : Df P w K mg base "_law_is_int" 1 (spD ⟨K, w⟩ 1 F__law_is_int)) : Df P w K mg base "_law_is_fraction" 2 (spD ⟨K, w⟩ 1 F__law_is_fraction) := by
  refine fn_D F gm sc__law_is_fraction rfl (fun _ _ _ _ _ _ us hl => match us, hl with | [_], _ => rfl) fun cdv A outer s H E hr => ?_
  refine ⟨_, (s_cons (s_if (DW.t (w_or (t_not (t_val (b := true) (k_isi (b := true) (b' := true) ⟨K, w⟩ is_tuple (e_v 0) T.isinstance T.tuple (by rfl)))) (w_or (t_cmp (b := true) (kNe ⟨K, w⟩ hr.u64) d_neD (e_bi (kLen ⟨K, w⟩) d_len (by rfl) T.len (by decide +kernel) (a_cons (e_v 0) a_nil)) e_int (nomark _)) (w_or1 (t_cmp (b := true) (kNeE ⟨K, w⟩ hr.u0) d_neE (DF.de (e_lcif [("x", 1)] rfl sc__law_is_fraction.nd (ki_seq ⟨K, w⟩ (e_v 0)) (blkOk_by (own := [("x", 1)]) rfl) (fun _ _ _ _ _ => (g_name 1 sc__law_is_fraction.nd)) (fun _ _ _ _ _ => (t_not (t_val (b := true) (k_call (G__law_is_int.up (by decide)) hr (a_cons (e_v 1) a_nil))))) (fun _ _ _ _ _ => (e_v 1)))) (DF.de (e_lst a_nil)) (nomark _)))))) (s_one (s_ret e_bl)) s_nil)
      (s_one (s_ret (e_and (e_cmp op_gt d_gt (e_ix (kIxU ⟨K, w⟩) d_ixU (e_v 0) e_int (fun _ _ => rfl)) e_int (nomark _)) (e_one (e_cmp (kEq ⟨K, w⟩ hr.u64) d_eqD (k_call (G__law_fraction.up (by decide)) hr (a_cons (e_ix (kIxU ⟨K, w⟩) d_ixU (e_v 0) e_int (fun _ _ => rfl)) (a_cons (e_ix (kIxU ⟨K, w⟩) d_ixU (e_v 0) e_int (fun _ _ => rfl)) a_nil))) (e_v 0) (nomark _))))))), fun ds R hl hF => ?_⟩
  match ds, hl, hF with
  | [d], _, h =>
    obtain ⟨hb, q⟩ := h
    nested_key
    refine ⟨ib_noN hb, ?_⟩
    cases d with
    | tup xs =>
      rw [if_neg (by simp [isTupB])]
      nested_key
      refine ⟨⟨rfl, rfl⟩, ?_⟩
      rw [eqD_int]
      by_cases h2 : (xs.length : Int) = 2
      · rw [if_neg (by simp [h2])]
        obtain ⟨a, b, rfl⟩ := two_of (xs := xs) (by omega)
        nested_key
        refine ⟨fun k acc => acc = ([a, b].take k).filter fun d => !isI d, rfl, fun k acc d hd h => ?_, fun acc h => ?_⟩
        · subst h
          refine ⟨ib_noN (ib_mem hb (List.mem_of_getElem? hd)), ?_⟩
          show (if (!isI d) = true then _ else _)
          rw [filter_step hd]
          by_cases hi : isI d = true
          · rw [if_neg (by simp [hi])]; simp [hi]
          · rw [if_pos (by simp [hi])]; simp [hi]
        · refine ⟨.inr trivial, ?_⟩
          have hk : acc.length = 0 ↔ ∀ d ∈ [a, b], isI d = true := by rw [h]; exact keyFilter (zs := [a, b])
          by_cases hall : ∀ d ∈ [a, b], isI d = true
          · rw [if_neg (by rw [decide_eq_true (hk.mpr hall)]; decide)]
            obtain ⟨p, rfl⟩ := isI_form (hall a (by simp))
            obtain ⟨t, rfl⟩ := isI_form (hall b (by simp))
            nested_key
            have q' : R (D.bl (decide (0 < t) && decide (Int.gcd p t = 1))) := q
            have bp : small 200 p := by have := ib_mem hb (d := .int p) (by simp); simpa only [ib] using this
            have bt : small 200 t := by have := ib_mem hb (d := .int t) (by simp); simpa only [ib] using this
            by_cases ht : (0 : Int) < t
            · rw [if_pos ht]
              rw [decide_eq_true ht, Bool.true_and] at q'
              refine ⟨⟨by omega, bp.mono (by decide), bt.mono (by decide)⟩, ⟨eqOk_pair _ _, eqOk_pair _ _⟩, ?_⟩
              rw [fr_same ht]
              exact q'
            · rw [if_neg ht]
              rw [decide_eq_false ht, Bool.false_and] at q'
              exact q'
          · rw [if_pos (by rw [decide_eq_false fun z => hall (hk.mp z)]; rfl)]
            have : isFB (.tup [a, b]) = false := by
              unfold isFB
              split
              · rename_i e
                injection e with e
                injection e with e1 e
                injection e with e2 e
                exact absurd (fun d hd => by
                  simp only [List.mem_cons, List.not_mem_nil, or_false] at hd
                  rcases hd with rfl | rfl
                  · rw [e1]; rfl
                  · rw [e2]; rfl) hall
              · rfl
            rw [this] at q; exact q
      · rw [if_pos (by simp [h2])]
        have : isFB (.tup xs) = false := by
          unfold isFB
          split
          · rename_i e; injection e with e; rw [e] at h2; exact absurd rfl h2
          · rfl
        rw [this] at q; exact q
    | _ =>
      rw [if_pos (by simp [isTupB])]
      exact q

abbrev s__law_rows_unlike : Stmt := topS 29
theorem sc__law_rows_unlike : FnScope ["n", "many", "rows", "turn", "row", "thing"] ["n", "many"] (defScope s__law_rows_unlike) := ⟨rfl, rfl, rfl, by decide +kernel, rfl, by decide +kernel, by decide +kernel⟩
theorem ok__law_rows_unlike {f : Addr} {fd : FuncData} (T : Txt mg) (F : Fun K "_law_rows_unlike" "_law_rows_unlike" s__law_rows_unlike f fd) (gm : mg "_law_rows_unlike" = some (.ref f)) (nd : base.NoDigits) (G__law_each_behind : Df P w K mg base "_law_each_behind" 1 (spD ⟨K, w⟩ 2 F__law_each_behind)) : Df P w K mg base "_law_rows_unlike" 2 (spD ⟨K, w⟩ 2 F__law_rows_unlike) := by
  refine fn_D F gm sc__law_rows_unlike rfl (fun _ _ _ _ _ _ us hl => match us, hl with | [_, _], _ => rfl) fun cdv A outer s H E hr => ?_
  refine ⟨_, (s_cons (s_set 2 sc__law_rows_unlike.nd (DF.de (e_lst (a_cons (e_tup a_nil) a_nil))))
      (s_cons (s_for PassesOwn.never rfl (i_range1 (b := true) T.range (a_cons (e_v 1) a_nil)) (g_name 3 sc__law_rows_unlike.nd) (s_one (s_set 2 sc__law_rows_unlike.nd (k_call (G__law_each_behind.up (by decide)) hr (a_cons (e_v 2) (a_cons (DF.de (e_listR1 (b := true) rfl T.list T.range (e_v 0))) a_nil))))))
      (s_one (s_ret (e_tup (a_cons (e_bi (kLen ⟨K, w⟩) d_len (by rfl) T.len (by decide +kernel) (a_cons (DF.de (e_lcif [("row", 4)] rfl sc__law_rows_unlike.nd (ki_seq ⟨K, w⟩ (e_v 2)) (blkOk_by (own := [("row", 4)]) rfl) (fun _ _ _ _ _ => (g_name 4 sc__law_rows_unlike.nd)) (fun _ _ _ _ _ => (t_cmp (b := true) (kEq ⟨K, w⟩ hr.u64) d_eqD (k_lenF (b := true) (k_dictP ⟨K, w⟩ rfl T.dict (a_cons (DF.de (e_lc [("thing", 5)] rfl sc__law_rows_unlike.nd (ki_seq ⟨K, w⟩ (e_v 4)) (blkOk_by (own := [("thing", 5)]) rfl) (fun _ _ _ _ _ => (g_name 5 sc__law_rows_unlike.nd)) (fun _ _ _ _ _ => (e_tup (a_cons (e_v 5) (a_cons e_int a_nil)))))) a_nil)) T.len) (e_v 1) (nomark _))) (fun _ _ _ _ _ => (e_v 4)))) a_nil)) (a_cons (e_bi (kLen ⟨K, w⟩) d_len (by rfl) T.len (by decide +kernel) (a_cons (e_v 2) a_nil)) a_nil))))))), fun ds R hl hF => ?_⟩
  match ds, hl, hF with
  | [x, y], _, h =>
    obtain ⟨n, m, rfl, rfl, hn, hm, q⟩ := h
    show rSeq _ _ _ [.val (.int n), .val (.int m), .emp, .emp, .emp, .emp]
    refine seq_hide fun K1 hK1 => ?_
    nested_key
    refine hK1 _ ?_
    clear hK1
    refine seq_hide fun K2 hK2 => ?_
    nested_key
    refine ⟨by omega, fun t ρ => t ≤ m ∧ ∃ a b c, ρ = [.val (.int n), .val (.int m), .val (.lst ((rowsN n t).map kD)), a, b, c], ⟨Nat.zero_le _, _, _, _, rfl⟩, fun t ρ d hd h => ?_, fun ρ h => ?_⟩
    · obtain ⟨ht, a, b, c, rfl⟩ := h
      obtain ⟨rfl, ht2⟩ := range_int hd
      nested_key
      refine ⟨by omega, rowsN n t, rangeI n, rfl, by rw [show ((n : Int)).toNat = n from rfl, rangeD_I], ?_, by unfold rangeI; simp; omega, fun r hr => by rw [rowsN_row n t r hr]; omega, by omega, _, _, _, rfl⟩
      rw [rowsN_len]
      have : n ^ t ≤ 3 ^ 4 := Nat.le_trans (Nat.pow_le_pow_left hn t) (Nat.pow_le_pow_right (by decide) (by omega))
      omega
    · obtain ⟨ht, a, b, c, rfl⟩ := h
      rw [rangeD_len]
      refine hK2 _ ?_
      clear hK2
      nested_key
      have e0 : ((m : Int)).toNat = m := rfl
      rw [e0]
      refine ⟨fun k acc => acc = (((rowsN n m).take k).filter fun r => decide (dictLen r = m)).map kD, rfl, fun k acc d hd h => ?_, fun acc h => ?_⟩
      · subst h
        obtain ⟨r, hr, rfl⟩ := of_map hd
        unfold kD
        nested_key
        refine ⟨fun j acc => acc = (r.take j).map fun t => D.tup [D.int t, D.int 0], rfl, fun j acc d hd h => ?_, fun acc h => ?_⟩
        · subst h
          obtain ⟨t, ht, rfl⟩ := of_map hd
          rw [take_map (f := fun t => D.tup [D.int t, D.int 0]) ht]
        · subst h
          rw [List.length_map, List.take_length]
          refine ⟨r.map fun t => (Sum.inl t, D.int 0), by rw [List.map_map]; rfl, ⟨rfl, rfl⟩, ?_⟩
          rw [eqD_int]
          have hd : (mergeKD [] (r.map fun t => ((Sum.inl t : Key), D.int 0))).length = dictLen r := rfl
          rw [hd, filter_step hr]
          by_cases hm' : dictLen r = m
          · rw [if_pos (by simp [hm'])]; simp [hm']
          · rw [if_neg (by simp; omega)]; simp [hm']
      · subst h
        rw [show ((rowsN n m).map kD).length = (rowsN n m).length from List.length_map .., List.take_length]
        rw [List.length_map, rowsN_len]
        exact q

abbrev s__law_falling_right : Stmt := topS 30
theorem sc__law_falling_right : FnScope ["source", "kinds", "told", "others", "n", "k", "many", "due", "i", "sizes", "unlike", "every", "p", "c", "kind", "x"] ["source"] (defScope s__law_falling_right) := ⟨rfl, rfl, rfl, by decide +kernel, rfl, by decide +kernel, by decide +kernel⟩
theorem ok__law_falling_right {f : Addr} {fd : FuncData} (T : Txt mg) (F : Fun K "_law_falling_right" "_law_falling_right" s__law_falling_right f fd) (gm : mg "_law_falling_right" = some (.ref f)) (nd : base.NoDigits) (G_falling : Df P w K mg base "falling" 2 (spD ⟨K, w⟩ 3 F_falling)) (G_mean_at : Df P w K mg base "mean_at" 3 (spD ⟨K, w⟩ 2 F_mean_at)) (G__law_pick : Df P w K mg base "_law_pick" 1 (spS ⟨K, w⟩ 1 F__law_pick)) (G__law_fraction : Df P w K mg base "_law_fraction" 1 (spD ⟨K, w⟩ 2 F__law_fraction)) (G__law_by : Df P w K mg base "_law_by" 2 (spD ⟨K, w⟩ 2 F__law_by)) (G__law_mean_at : Df P w K mg base "_law_mean_at" 2 (spD ⟨K, w⟩ 2 F__law_mean_at)) (G__law_is_mean : Df P w K mg base "_law_is_mean" 2 (spD ⟨K, w⟩ 2 F__law_is_mean)) (G__law_rows_unlike : Df P w K mg base "_law_rows_unlike" 2 (spD ⟨K, w⟩ 2 F__law_rows_unlike)) : Df P w K mg base "_law_falling_right" 4 (spS ⟨K, w⟩ 0 F__law_falling_right) := by
  refine fn_S F gm sc__law_falling_right rfl (fun _ _ _ _ _ _ us hl => match us, hl with | [_], _ => rfl) fun cdv A outer s H E hr => ?_
  refine ⟨_, (s_cons (s_set 1 sc__law_falling_right.nd (e_op (kAdd ⟨K, w⟩) d_addU e_int (k_callS 0 (G__law_pick.up (by decide)) hr (a_cons e_int a_nil))))
      (s_cons (s_asg (e_tup (a_cons (k_callS 0 (G__law_pick.up (by decide)) hr (a_cons (e_v 1) a_nil)) (a_cons (k_callS 0 (G__law_pick.up (by decide)) hr (a_cons (e_if (t_cmp (b := true) (kEq ⟨K, w⟩ hr.u64) d_eqD (k_callS 0 (G__law_pick.up (by decide)) hr (a_cons e_int a_nil)) e_int (nomark _)) e_int e_int) a_nil)) a_nil))) (kg_seq ⟨K, w⟩ 2 rfl (gs_cons (g_name 5 sc__law_falling_right.nd) (gs_cons (g_name 6 sc__law_falling_right.nd) gs_nil))))
      (s_cons (s_set 2 sc__law_falling_right.nd (k_call (G_falling.up (by decide)) hr (a_cons (e_v 1) (a_cons (e_v 5) (a_cons (e_v 6) a_nil)))))
      (s_cons (s_setLcif 3 [("p", 12), ("c", 13)] rfl sc__law_falling_right.nd (sw_true rfl rfl rfl (by decide +kernel)) (ki_seq ⟨K, w⟩ (e_v 2)) (blkOk_by (own := [("p", 12), ("c", 13)]) rfl) (fun _ _ _ _ _ => (kg_tup ⟨K, w⟩ 2 rfl (gs_cons (g_name 12 sc__law_falling_right.nd) (gs_cons (g_name 13 sc__law_falling_right.nd) gs_nil)))) (fun _ _ _ _ _ => (t_cmp (b := true) (kNeE ⟨K, w⟩ hr.u0) d_neE (DF.de (e_lcif [("i", 8), ("x", 15)] rfl sc__law_falling_right.nd (ki_e ⟨K, w⟩ T.enumerate (a_cons (e_v 12) a_nil)) (blkOk_by (own := [("i", 8), ("x", 15)]) rfl) (fun _ _ _ _ _ => (kg_tup ⟨K, w⟩ 2 rfl (gs_cons (g_name 8 sc__law_falling_right.nd) (gs_cons (g_name 15 sc__law_falling_right.nd) gs_nil)))) (fun _ _ _ _ _ => (DW.t (w_and (t_cmp (b := true) op_gt d_gt (e_v 15) e_int (nomark _)) (w_and1 (t_cmp (b := true) (kNe ⟨K, w⟩ hr.u64) d_neD (e_v 8) (e_v 5) (nomark _)))))) (fun _ _ _ _ _ => (e_v 15)))) (DF.de (e_lst a_nil)) (nomark _))) (fun _ _ _ _ _ => (e_v 12)))
      (s_cons (s_if (DW.t (w_or (t_not (t_val (b := true) (k_call (G__law_is_mean.up (by decide)) hr (a_cons (e_v 1) (a_cons (e_v 2) a_nil))))) (w_or1 (t_cmp (b := true) (kNeE ⟨K, w⟩ hr.u0) d_neE (e_v 3) (DF.de (e_lst a_nil)) (nomark _))))) (s_one (s_ret e_bl)) s_nil)
      (s_cons (s_for PassesOwn.never rfl (ki_seq ⟨K, w⟩ (e_op (kAdd ⟨K, w⟩) d_addU (DF.de (e_listR2 (b := true) rfl T.list T.range e_int (e_op (kAdd ⟨K, w⟩) d_addU (e_v 6) e_int))) (DF.de (e_lst (a_cons (e_op (kAdd ⟨K, w⟩) d_addU e_int (k_callS 0 (G__law_pick.up (by decide)) hr (a_cons (e_op op_pow d_pow e_int e_int) a_nil))) a_nil))))) (g_name 4 sc__law_falling_right.nd) (s_cons (s_set 7 sc__law_falling_right.nd (e_tup (a_cons e_int (a_cons e_int a_nil))))
      (s_cons (s_for PassesOwn.never rfl (i_range1 (b := true) T.range (a_cons (e_v 6) a_nil)) (g_name 8 sc__law_falling_right.nd) (s_one (s_set 7 sc__law_falling_right.nd (k_call (G__law_by.up (by decide)) hr (a_cons (e_v 7) (a_cons (k_call (G__law_fraction.up (by decide)) hr (a_cons (e_op op_sub d_sub (e_v 4) (e_v 8)) (a_cons (e_v 4) a_nil))) a_nil))))))
      (s_cons (s_set 9 sc__law_falling_right.nd (e_ty (kTuple ⟨K, w⟩) d_tuple (by rfl) T.tuple (by decide +kernel) (a_cons (DF.de (e_lc [("kind", 14)] rfl sc__law_falling_right.nd (i_range1 (b := true) T.range (a_cons (e_v 1) a_nil)) (blkOk_by (own := [("kind", 14)]) rfl) (fun _ _ _ _ _ => (g_name 14 sc__law_falling_right.nd)) (fun _ _ _ _ _ => (e_if (t_cmp (b := true) (kEq ⟨K, w⟩ hr.u64) d_eqD (e_v 14) (e_v 5) (nomark _)) (e_v 4) (e_op (kAdd ⟨K, w⟩) d_addU e_int (k_callS 0 (G__law_pick.up (by decide)) hr (a_cons e_int a_nil))))))) a_nil)))
      (s_cons (s_if (DW.t (w_or (t_cmp (b := true) op_ne d_neS (k_repr ⟨K, w⟩ hr nd T.repr (a_cons (k_call (G_mean_at.up (by decide)) hr (a_cons (e_v 2) (a_cons (e_v 9) a_nil))) a_nil)) (k_repr ⟨K, w⟩ hr nd T.repr (a_cons (e_v 7) a_nil)) (nomark _)) (w_or1 (t_cmp (b := true) op_ne d_neS (k_repr ⟨K, w⟩ hr nd T.repr (a_cons (k_call (G__law_mean_at.up (by decide)) hr (a_cons (e_v 2) (a_cons (e_v 9) a_nil))) a_nil)) (k_repr ⟨K, w⟩ hr nd T.repr (a_cons (e_v 7) a_nil)) (nomark _))))) (s_one (s_ret e_bl)) s_nil)
      (s_cons (s_asg (e_if (DW.t (w_and (t_cmp (b := true) op_lt d_lt (e_v 4) e_int (nomark _)) (w_and1 (t_cmp (b := true) op_lt d_lt (e_v 6) e_int (nomark _))))) (k_call (G__law_rows_unlike.up (by decide)) hr (a_cons (e_v 4) (a_cons (e_v 6) a_nil))) (e_v 7)) (kg_seq ⟨K, w⟩ 2 rfl (gs_cons (g_name 10 sc__law_falling_right.nd) (gs_cons (g_name 11 sc__law_falling_right.nd) gs_nil))))
      (s_one (s_if (t_cmp (b := true) (kNe ⟨K, w⟩ hr.u64) d_neD (k_call (G__law_fraction.up (by decide)) hr (a_cons (e_v 10) (a_cons (e_v 11) a_nil))) (e_v 7) (nomark _)) (s_one (s_ret e_bl)) s_nil))))))))
      (s_one (s_ret (e_cmp (kEq ⟨K, w⟩ hr.u64) d_eqD (e_bi (kLen ⟨K, w⟩) d_len (by rfl) T.len (by decide +kernel) (a_cons (e_v 2) a_nil)) (e_if (t_cmp (b := true) (kEq ⟨K, w⟩ hr.u64) d_eqD (e_v 6) e_int (nomark _)) e_int (e_v 6)) (nomark _)))))))))), fun ds R hl hF => ?_⟩
  match ds, hl, hF with
  | [], _, q =>
    show rSeq _ _ _ [.src, .emp, .emp, .emp, .emp, .emp, .emp, .emp, .emp, .emp, .emp, .emp, .emp, .emp, .emp, .emp]
    have small3 : ∀ {m : Nat}, m ≤ 1000 → (m : Int).natAbs < 2 ^ 8000 := fun h => Nat.lt_of_lt_of_le (m := 2 ^ 10) (by omega) (Nat.pow_le_pow_right (by decide) (by decide))
    refine seq_hide fun K1 hK1 => ?_
    nested_key
    refine ⟨trivial, small3 (m := 3) (by decide), fun r h0 h1 => ?_⟩
    obtain ⟨n, hn, hn1, hn3⟩ : ∃ n : Nat, 1 + r = (n : Int) ∧ 1 ≤ n ∧ n ≤ 3 := ⟨(1 + r).toNat, by omega, by omega, by omega⟩
    dsimp only
    rw [hn]
    refine hK1 _ ?_
    clear hK1 h0 h1 hn
    refine seq_hide fun K2 hK2 => ?_
    nested_key
    refine ⟨trivial, small3 (by omega), fun r h0 h1 => ?_⟩
    obtain ⟨k, rfl, hk⟩ : ∃ k : Nat, r = (k : Int) ∧ k < n := ⟨r.toNat, by omega, by omega⟩
    clear h0 h1
    refine ⟨trivial, trivial, small3 (m := 3) (by decide), fun r h0 h1 => ⟨⟨rfl, rfl⟩, ?_⟩⟩
    have next : ∀ m : Nat, m ≤ 12 → K2 [Sl.src, Sl.val (D.int n), Sl.emp, Sl.emp, Sl.emp, Sl.val (D.int k), Sl.val (D.int m), Sl.emp, Sl.emp, Sl.emp, Sl.emp, Sl.emp, Sl.emp, Sl.emp, Sl.emp, Sl.emp] := fun m hm => by
      refine hK2 _ ?_
      clear hK2
      refine seq_hide fun K3 hK3 => ?_
      nested_key
      refine ⟨n, k, m, rfl, rfl, rfl, hn3, hk, hm, ?_⟩
      have bd := fall_bd hk (show m < 13 by omega)
      have cn := canon_ok (fallRows n k m)
      have ky := fall_key (n := n) (k := k) (m := m)
      have hlen := fall_len (n := n) (k := k) (show m < 13 by omega)
      have hval : ∀ {s : List Int} {z : Int}, s[k]? = some z → z ≠ 0 → val s (canon (fallRows n k m)) = fallR (1 / (z : Rat)) m := fun h hz => val_fall h hz
      generalize canon (fallRows n k m) = M at *
      refine hK3 _ ?_
      clear hK3
      refine seq_hide fun K4 hK4 => ?_
      unfold mD
      nested_key
      refine ⟨fun _ acc => acc = [], rfl, fun j acc d hd h => ?_, fun acc h => ?_⟩
      · subst h
        obtain ⟨r, hr, rfl⟩ := of_map hd
        obtain ⟨t, ht⟩ := ky r (List.mem_of_getElem? hr)
        unfold rowD kD
        nested_key
        refine ⟨trivial, immK _, fun _ acc => acc = [], rfl, fun i acc d hd h => ?_, fun acc h => ?_⟩
        · subst h
          obtain ⟨x, hx, rfl⟩ := enum_get hd
          nested_key
          by_cases hp : 0 < x
          · rw [if_pos hp]
            refine ⟨trivial, ⟨rfl, rfl⟩, ?_⟩
            rw [eqD_int]
            by_cases hik : i = k
            · rw [if_neg (by simp [hik])]; trivial
            · rw [ht] at hx
              have := fkey_other hx hik
              omega
          · rw [if_neg hp, if_neg (by decide)]; exact ⟨trivial, trivial⟩
        · subst h
          exact ⟨.inl rfl, by rw [if_neg (by decide)]; trivial⟩
      · subst h
        refine hK4 _ ?_
        clear hK4
        refine seq_hide fun K5 hK5 => ?_
        nested_key
        refine ⟨n, rfl, ib_mean bd (by decide) (by decide), fun xs e => ?_, ?_⟩
        · have e' : M.map rowD = xs := by unfold mD at e; injection e
          rw [← e', List.length_map]
          have := bd.len
          omega
        rw [show D.tup (List.map rowD M) = mD M from rfl, mean_is cn fun r hr => ⟨(bd.row r hr).1, fun p hp => ((bd.row r hr).2.1 p hp).1⟩]
        rw [if_neg (by decide)]
        refine ⟨.inl trivial, ?_⟩
        refine hK5 _ ?_
        clear hK5
        refine seq_hide fun K6 hK6 => ?_
        nested_key
        refine ⟨by omega, trivial, by unfold CPow; decide, by decide, fun r h0 h1 => ?_⟩
        nested_key
        have hr1 : (1 + r).natAbs < 2 ^ 101 := by
          have : r < 1000000000000000000000000000000 ∨ r = 0 := by simpa using h1
          have : (1000000000000000000000000000001 : Nat) < 2 ^ 101 := by decide +kernel
          omega
        have hall : ∀ d ∈ rangeD 1 ((m : Int) + 2 - 1).toNat ++ [D.int (1 + r)], ∃ N : Int, d = .int N ∧ 1 ≤ N ∧ small 101 N := fun d hd => by
          rcases List.mem_append.mp hd with hd | hd
          · obtain ⟨j, hj⟩ := List.getElem?_of_mem hd
            obtain ⟨rfl, hj2⟩ := range_int1 hj
            exact ⟨_, rfl, by omega, Nat.lt_of_lt_of_le (m := 2 ^ 10) (by omega) (Nat.pow_le_pow_right (by decide) (by decide))⟩
          · rw [List.mem_singleton.mp hd]
            exact ⟨_, rfl, by omega, hr1⟩
        have hsz : (rangeD 1 ((m : Int) + 2 - 1).toNat).length + 1 ≤ sizeLine := by
          rw [rangeD_len]
          exact Nat.le_trans (m := 100) (by omega) (by decide)
        generalize rangeD 1 ((m : Int) + 2 - 1).toNat ++ [D.int (1 + r)] = L at *
        clear h0 h1 hr1
        refine ⟨hsz, fun j ρ => ∃ a b c e f g, ρ = [.src, .val (.int n), .val (mD M), .val (.lst []), a, .val (.int k), .val (.int m), b, c, e, f, g, .emp, .emp, .emp, .emp], ⟨_, _, _, _, _, _, rfl⟩, fun j ρ d hd h => ?_, fun ρ h => ?_⟩
        · obtain ⟨a, b, c, e, f, g, rfl⟩ := h
          obtain ⟨N, rfl, hN1, hN2⟩ := hall d (List.mem_of_getElem? hd)
          have hNz : N ≠ 0 := by omega
          clear hd hall hsz
          nested_key
          refine ⟨by omega, fun j ρ => j ≤ m ∧ ∃ c, ρ = [.src, .val (.int n), .val (mD M), .val (.lst []), .val (.int N), .val (.int k), .val (.int m), .val (frD (frac (fallR (1 / (N : Rat)) j))), c, e, f, g, .emp, .emp, .emp, .emp], ⟨Nat.zero_le _, _, rfl⟩, fun j ρ d hd h => ?_, fun ρ h => ?_⟩
          · obtain ⟨hj, c, rfl⟩ := h
            obtain ⟨rfl, hj2⟩ := range_int hd
            have hj3 : j < m := hj2
            have hx := fall_ok hN1 hN2 (m := j) (by omega)
            have hy := fr_ok (p := N - j) hNz (sub101 hN1 hN2 (by omega)) hN2
            have hst := fall_step hNz j
            nested_key
            refine ⟨⟨hNz, (sub101 hN1 hN2 (by omega)).mono (by decide), hN2.mono (by decide)⟩, ?_⟩
            refine ⟨⟨hx.s1.mono (by decide), hx.s2.mono (by decide), hy.s1.mono (by decide), hy.s2.mono (by decide), Int.ne_of_gt (Int.mul_pos hx.pos hy.pos)⟩, ?_⟩
            refine ⟨by omega, _, by rw [← hst]⟩
          · obtain ⟨hj, c, rfl⟩ := h
            rw [rangeD_len]
            rw [show ((m : Int)).toNat = m from rfl] at *
            have hx := fall_ok hN1 hN2 (m := m) hm
            nested_key
            refine ⟨by omega, fun j acc => ∃ s : List Int, acc = s.map D.int ∧ s.length = j ∧ (∀ x ∈ s, 1 ≤ x ∧ small 101 x) ∧ (k < j → s[k]? = some N), ⟨[], rfl, rfl, by simp, by omega⟩, fun j acc d hd h => ?_, fun acc h => ?_⟩
            · obtain ⟨s, rfl, h1, h2, h3⟩ := h
              obtain ⟨rfl, hj2⟩ := range_int hd
              nested_key
              refine ⟨⟨rfl, rfl⟩, ?_⟩
              rw [eqD_int]
              have hap : ∀ x : Int, s.map D.int ++ [D.int x] = (s ++ [x]).map D.int := fun x => by rw [List.map_append]; rfl
              have hin : ∀ x : Int, 1 ≤ x → small 101 x → ∀ y ∈ s ++ [x], 1 ≤ y ∧ small 101 y := fun x g1 g2 y hy => by
                rcases List.mem_append.mp hy with hy | hy
                · exact h2 y hy
                · rw [List.mem_singleton.mp hy]; exact ⟨g1, g2⟩
              by_cases hjk : j = k
              · rw [if_pos (by simp [hjk])]
                refine ⟨s ++ [N], hap N, by rw [List.length_append, h1]; rfl, hin N hN1 hN2, fun _ => ?_⟩
                rw [← hjk, ← h1, List.getElem?_append_right (Nat.le_refl _), Nat.sub_self]; rfl
              · rw [if_neg (by simp; omega)]
                refine ⟨trivial, small3 (m := 7) (by decide), fun r g0 g1 => ⟨s ++ [1 + r], hap _, by rw [List.length_append, h1]; rfl, hin _ (by omega) (Nat.lt_of_lt_of_le (m := 2 ^ 10) (by omega) (Nat.pow_le_pow_right (by decide) (by decide))), fun g => ?_⟩⟩
                rw [List.getElem?_append_left (by omega)]
                exact h3 (by omega)
            · obtain ⟨s, rfl, h1, h2, h3⟩ := h
              rw [rangeD_len, show ((n : Int)).toNat = n from rfl] at h1 h3
              have hS : SOk s := ⟨by omega, h2⟩
              have hM : MOk s.length M := by rw [h1]; exact bd.mok (by decide) (by decide) (by decide)
              have hv : frac (val s M) = frac (fallR (1 / (N : Rat)) m) := by rw [hval (h3 hk) hNz]
              have so := shows_f hx (by decide)
              refine ⟨M, s, rfl, rfl, hS, hM, ?_⟩
              rw [hv]
              have hu : ∀ N' : Nat, N = (N' : Int) → N' < 4 → m < 5 → fr (unl N' m : Nat) ((N' ^ m : Nat) : Int) = frac (fallR (1 / (N : Rat)) m) := fun N' e g1 g2 => by
                rw [e]; exact unl_frac (by omega) g1 g2
              have hsf := frac_self (fallR (1 / (N : Rat)) m)
              have pos := hx.pos
              have sx1 := hx.s1
              have sx2 := hx.s2
              clear hval hx h1 h2 h3
              generalize frac (fallR (1 / (N : Rat)) m) = x at *
              have ex : frD x = .tup [.int x.1, .int x.2] := rfl
              rw [ex] at so ⊢
              nested_key
              refine ⟨so, so, ?_⟩
              rw [if_neg (by simp)]
              refine ⟨M, s, rfl, rfl, hS, hM, ?_⟩
              rw [hv, ex]
              nested_key
              refine ⟨so, so, ?_⟩
              rw [if_neg (by simp)]
              have fin : (D.eqOk (frD x) = true ∧ D.eqOk (.tup [.int x.1, .int x.2]) = true) ∧ ∀ T : Prop, T → if (!eqD (frD x) (.tup [.int x.1, .int x.2])) = true then R (D.bl false) else T := ⟨⟨eqOk_pair _ _, eqOk_pair _ _⟩, fun T t => by
                rw [if_neg (by rw [← ex, eqD_fr]; decide)]
                exact t⟩
              have alt : F__law_fraction [D.int x.1, D.int x.2] fun y => (D.eqOk y = true ∧ D.eqOk (.tup [.int x.1, .int x.2]) = true) ∧ ∀ T : Prop, T → if (!eqD y (.tup [.int x.1, .int x.2])) = true then R (D.bl false) else T := by
                refine ⟨⟨by omega, sx1.mono (by decide), sx2.mono (by decide)⟩, ?_⟩
                rw [hsf]; exact fin
              by_cases g1 : N < 4
              · rw [if_pos g1]
                by_cases g2 : (m : Int) < 5
                · rw [if_pos g2]
                  obtain ⟨N', rfl⟩ : ∃ N' : Nat, N = (N' : Int) := ⟨N.toNat, by omega⟩
                  refine ⟨N', m, rfl, rfl, by omega, by omega, ?_⟩
                  nested_key
                  have hu := hu N' rfl (by omega) (by omega)
                  have hp1 : N' ^ m ≤ 3 ^ 4 := Nat.le_trans (Nat.pow_le_pow_left (by omega) m) (Nat.pow_le_pow_right (by decide) (by omega))
                  have hp0 : 0 < N' ^ m := Nat.pow_pos (by omega)
                  refine ⟨trivial, ⟨by omega, ?_, Nat.lt_of_lt_of_le (m := 2 ^ 10) (by omega) (Nat.pow_le_pow_right (by decide) (by decide))⟩, ?_⟩
                  · have : unl N' m ≤ N' ^ m := by
                      unfold unl
                      rw [← rowsN_len]
                      exact List.length_filter_le ..
                    exact Nat.lt_of_lt_of_le (m := 2 ^ 10) (by omega) (Nat.pow_le_pow_right (by decide) (by decide))
                  rw [hu]
                  exact ⟨fin.1, fin.2 _ ⟨_, _, _, _, _, _, rfl⟩⟩
                · rw [if_neg g2]
                  exact ⟨trivial, alt.1, alt.2.1, alt.2.2 _ ⟨_, _, _, _, _, _, rfl⟩⟩
              · rw [if_neg g1]
                exact ⟨trivial, alt.1, alt.2.1, alt.2.2 _ ⟨_, _, _, _, _, _, rfl⟩⟩
        · obtain ⟨a, b, c, e, f, g, rfl⟩ := h
          refine hK6 _ ?_
          clear hK6
          nested_key
          unfold mD
          nested_key
          rw [eqD_int]
          by_cases h0 : (m : Int) = 0
          · rw [if_pos (by simp [h0])]
            refine ⟨⟨rfl, rfl⟩, ⟨rfl, rfl⟩, ?_⟩
            rw [eqD_int, decide_eq_true (by rw [List.length_map, hlen, if_pos (by omega)]; rfl)]
            exact q
          · rw [if_neg (by rw [decide_eq_true_eq]; exact h0)]
            refine ⟨⟨rfl, rfl⟩, ⟨rfl, rfl⟩, ?_⟩
            rw [eqD_int, decide_eq_true (by rw [List.length_map, hlen, if_neg (by omega)])]
            exact q
    rw [eqD_int]
    by_cases hr : r = 0
    · rw [if_pos (by simp [hr])]
      refine ⟨small3 (m := 13) (by decide), fun r h0 h1 => ⟨trivial, ?_⟩⟩
      have h2 := next r.toNat (by omega)
      rw [Int.toNat_of_nonneg h0] at h2
      exact h2
    · rw [if_neg (by simp [hr])]
      refine ⟨small3 (m := 6) (by decide), fun r h0 h1 => ⟨trivial, ?_⟩⟩
      have h2 := next r.toNat (by omega)
      rw [Int.toNat_of_nonneg h0] at h2
      exact h2

abbrev s__law_row_right : Stmt := topS 31
theorem sc__law_row_right : FnScope ["source", "kinds", "greatest", "sizes", "kind", "told", "late", "mean", "k", "bottom", "row", "powers", "number", "n", "total", "i", "c"] ["source"] (defScope s__law_row_right) := ⟨rfl, rfl, rfl, by decide +kernel, rfl, by decide +kernel, by decide +kernel⟩
theorem ok__law_row_right {f : Addr} {fd : FuncData} (T : Txt mg) (F : Fun K "_law_row_right" "_law_row_right" s__law_row_right f fd) (gm : mg "_law_row_right" = some (.ref f)) (nd : base.NoDigits) (G_greatest_powers : Df P w K mg base "greatest_powers" 1 (spD ⟨K, w⟩ 2 F_greatest_powers)) (G_mean_row : Df P w K mg base "mean_row" 3 (spD ⟨K, w⟩ 3 F_mean_row)) (G__law_pick : Df P w K mg base "_law_pick" 1 (spS ⟨K, w⟩ 1 F__law_pick)) (G__law_of : Df P w K mg base "_law_of" 2 (spS ⟨K, w⟩ 1 F__law_of)) (G__law_fraction : Df P w K mg base "_law_fraction" 1 (spD ⟨K, w⟩ 2 F__law_fraction)) (G__law_drawn_mean : Df P w K mg base "_law_drawn_mean" 3 (spS ⟨K, w⟩ 3 F__law_drawn_mean)) (G__law_power : Df P w K mg base "_law_power" 1 (spD ⟨K, w⟩ 2 F__law_power)) (G__law_mean_at : Df P w K mg base "_law_mean_at" 2 (spD ⟨K, w⟩ 2 F__law_mean_at)) : Df P w K mg base "_law_row_right" 4 (spS ⟨K, w⟩ 0 F__law_row_right) := by
  refine fn_S F gm sc__law_row_right rfl (fun _ _ _ _ _ _ us hl => match us, hl with | [_], _ => rfl) fun cdv A outer s H E hr => ?_
  refine ⟨_, (s_cons (s_set 1 sc__law_row_right.nd (e_op (kAdd ⟨K, w⟩) d_addU e_int (k_callS 0 (G__law_pick.up (by decide)) hr (a_cons e_int a_nil))))
      (s_cons (s_asg (e_tup (a_cons (k_callS 0 (G__law_drawn_mean.up (by decide)) hr (a_cons (e_v 1) (a_cons (k_callS 0 (G__law_of.up (by decide)) hr (a_cons (DF.de (e_lst (a_cons e_int (a_cons e_int (a_cons e_int a_nil))))) a_nil)) (a_cons e_int a_nil)))) (a_cons (k_callS 0 (G__law_pick.up (by decide)) hr (a_cons (e_v 1) a_nil)) a_nil))) (kg_seq ⟨K, w⟩ 2 rfl (gs_cons (g_name 7 sc__law_row_right.nd) (gs_cons (g_name 8 sc__law_row_right.nd) gs_nil))))
      (s_cons (s_setLc 2 [("kind", 4)] rfl sc__law_row_right.nd (sw_true rfl rfl rfl (by decide +kernel)) (i_range1 (b := true) T.range (a_cons (e_v 1) a_nil)) (blkOk_by (own := [("kind", 4)]) rfl) (fun _ _ _ _ _ => (g_name 4 sc__law_row_right.nd)) (fun _ _ _ _ _ => (k_max ⟨K, w⟩ rfl T.max (a_cons (e_op (kAdd ⟨K, w⟩) d_addU (DF.de (e_lc [("powers", 11), ("number", 12)] rfl sc__law_row_right.nd (ki_seq ⟨K, w⟩ (e_v 7)) (blkOk_by (own := [("powers", 11), ("number", 12)]) rfl) (fun _ _ _ _ _ => (kg_tup ⟨K, w⟩ 2 rfl (gs_cons (g_name 11 sc__law_row_right.nd) (gs_cons (g_name 12 sc__law_row_right.nd) gs_nil)))) (fun _ _ _ _ _ => (e_ix (kIxU ⟨K, w⟩) d_ixU (e_v 11) (e_v 4) (fun _ _ => rfl))))) (DF.de (e_lst (a_cons e_int a_nil)))) a_nil))))
      (s_cons (s_set 3 sc__law_row_right.nd (e_ty (kTuple ⟨K, w⟩) d_tuple (by rfl) T.tuple (by decide +kernel) (a_cons (DF.de (e_lc [("kind", 4)] rfl sc__law_row_right.nd (i_range1 (b := true) T.range (a_cons (e_v 1) a_nil)) (blkOk_by (own := [("kind", 4)]) rfl) (fun _ _ _ _ _ => (g_name 4 sc__law_row_right.nd)) (fun _ _ _ _ _ => (e_op (kAdd ⟨K, w⟩) d_addU e_int (k_callS 0 (G__law_pick.up (by decide)) hr (a_cons (k_callS 0 (G__law_of.up (by decide)) hr (a_cons (DF.de (e_lst (a_cons e_int (a_cons e_int (a_cons (e_op op_pow d_pow e_int e_int) a_nil))))) a_nil)) a_nil)))))) a_nil)))
      (s_cons (s_par2O 9 10 rfl sc__law_row_right.nd e_int (e_repF (DF.de (e_lst (a_cons e_int a_nil))) (e_op (kAdd ⟨K, w⟩) d_addU (e_ix (kIxU ⟨K, w⟩) d_ixU (e_v 2) (e_v 8) (fun _ _ => rfl)) e_int)))
      (s_cons (s_for PassesOwn.never rfl (i_range1 (b := true) T.range (a_cons (e_v 1) a_nil)) (g_name 4 sc__law_row_right.nd) (s_one (s_set 9 sc__law_row_right.nd (e_op (kMul ⟨K, w⟩) d_mulA (e_v 9) (e_if (t_cmp (b := true) (kNe ⟨K, w⟩ hr.u64) d_neD (e_v 4) (e_v 8) (nomark _)) (k_call (G__law_power.up (by decide)) hr (a_cons (e_ix (kIxU ⟨K, w⟩) d_ixU (e_v 3) (e_v 4) (fun _ _ => rfl)) (a_cons (e_ix (kIxU ⟨K, w⟩) d_ixU (e_v 2) (e_v 4) (fun _ _ => rfl)) a_nil))) e_int)))))
      (s_cons (s_for PassesOwn.never rfl (ki_seq ⟨K, w⟩ (e_v 7)) (kg_tup ⟨K, w⟩ 2 rfl (gs_cons (g_name 11 sc__law_row_right.nd) (gs_cons (g_name 12 sc__law_row_right.nd) gs_nil))) (s_cons (s_for PassesOwn.never rfl (i_range1 (b := true) T.range (a_cons (e_v 1) a_nil)) (g_name 4 sc__law_row_right.nd) (s_one (s_set 12 sc__law_row_right.nd (e_op (kMul ⟨K, w⟩) d_mulA (e_v 12) (e_if (t_cmp (b := true) (kNe ⟨K, w⟩ hr.u64) d_neD (e_v 4) (e_v 8) (nomark _)) (k_call (G__law_power.up (by decide)) hr (a_cons (e_ix (kIxU ⟨K, w⟩) d_ixU (e_v 3) (e_v 4) (fun _ _ => rfl)) (a_cons (e_op op_sub d_sub (e_ix (kIxU ⟨K, w⟩) d_ixU (e_v 2) (e_v 4) (fun _ _ => rfl)) (e_ix (kIxU ⟨K, w⟩) d_ixU (e_v 11) (e_v 4) (fun _ _ => rfl))) a_nil))) e_int)))))
      (s_one (s_put 10 hr.u70 (e_op op_sub d_sub (e_ix (kIxU ⟨K, w⟩) d_ixU (e_v 2) (e_v 8) (fun _ _ => rfl)) (e_ix (kIxU ⟨K, w⟩) d_ixU (e_v 11) (e_v 8) (fun _ _ => rfl))) (DE.immF (e_op (kAdd ⟨K, w⟩) d_addU (e_ix (kIxU ⟨K, w⟩) d_ixU (e_b 10) ((e_op op_sub d_sub (e_ix (kIxU ⟨K, w⟩) d_ixU (e_v 2) (e_v 8) (fun _ _ => rfl)) (e_ix (kIxU ⟨K, w⟩) d_ixU (e_v 11) (e_v 8) (fun _ _ => rfl)))).bor (fun _ _ => rfl)) ((e_v 12)).bor))))))
      (s_cons (s_set 5 sc__law_row_right.nd (k_call (G_mean_row.up (by decide)) hr (a_cons (e_v 7) (a_cons (e_v 8) (a_cons (e_v 3) a_nil)))))
      (s_cons (s_melt 10 (s_if (t_cmp (b := true) op_ne d_neS (k_repr ⟨K, w⟩ hr nd T.repr (a_cons (DF.de (e_lst (a_cons (e_v 5) (a_cons (k_call (G_greatest_powers.up (by decide)) hr (a_cons (e_v 1) (a_cons (e_v 7) a_nil))) a_nil)))) a_nil)) (k_repr ⟨K, w⟩ hr nd T.repr (a_cons (DF.de (e_lst (a_cons (e_tup (a_cons (e_ty (kTuple ⟨K, w⟩) d_tuple (by rfl) T.tuple (by decide +kernel) (a_cons (e_v 10) a_nil)) (a_cons (e_ix (kIxU ⟨K, w⟩) d_ixU (e_v 2) (e_v 8) (fun _ _ => rfl)) (a_cons (e_v 9) a_nil)))) (a_cons (e_ty (kTuple ⟨K, w⟩) d_tuple (by rfl) T.tuple (by decide +kernel) (a_cons (e_v 2) a_nil)) a_nil)))) a_nil)) (nomark _)) (s_one (s_ret e_bl)) s_nil))
      (s_cons (s_asg (e_tup (a_cons (e_op (kAdd ⟨K, w⟩) d_addU e_int (k_callS 0 (G__law_pick.up (by decide)) hr (a_cons (e_op op_pow d_pow e_int e_int) a_nil))) (a_cons e_int a_nil))) (kg_seq ⟨K, w⟩ 2 rfl (gs_cons (g_name 13 sc__law_row_right.nd) (gs_cons (g_name 14 sc__law_row_right.nd) gs_nil))))
      (s_cons (s_for PassesOwn.never rfl (ki_e ⟨K, w⟩ T.enumerate (a_cons (e_ix (kIxU ⟨K, w⟩) d_ixU (e_v 5) e_int (fun _ _ => rfl)) a_nil)) (kg_tup ⟨K, w⟩ 2 rfl (gs_cons (g_name 15 sc__law_row_right.nd) (gs_cons (g_name 16 sc__law_row_right.nd) gs_nil))) (s_one (s_set 14 sc__law_row_right.nd (e_op (kAdd ⟨K, w⟩) d_addU (e_v 14) (e_op (kMul ⟨K, w⟩) d_mulA (e_v 16) (k_call (G__law_power.up (by decide)) hr (a_cons (e_v 13) (a_cons (e_v 15) a_nil))))))))
      (s_cons (s_set 6 sc__law_row_right.nd (e_ty (kTuple ⟨K, w⟩) d_tuple (by rfl) T.tuple (by decide +kernel) (a_cons (DF.de (e_lc [("kind", 4)] rfl sc__law_row_right.nd (i_range1 (b := true) T.range (a_cons (e_v 1) a_nil)) (blkOk_by (own := [("kind", 4)]) rfl) (fun _ _ _ _ _ => (g_name 4 sc__law_row_right.nd)) (fun _ _ _ _ _ => (e_if (t_cmp (b := true) (kEq ⟨K, w⟩ hr.u64) d_eqD (e_v 4) (e_v 8) (nomark _)) (e_v 13) (e_ix (kIxU ⟨K, w⟩) d_ixU (e_v 3) (e_v 4) (fun _ _ => rfl)))))) a_nil)))
      (s_one (s_ret (e_cmp (kEq ⟨K, w⟩ hr.u64) d_eqD (k_call (G__law_fraction.up (by decide)) hr (a_cons (e_v 14) (a_cons (e_op (kMul ⟨K, w⟩) d_mulA (e_ix (kIxU ⟨K, w⟩) d_ixU (e_v 5) e_int (fun _ _ => rfl)) (k_call (G__law_power.up (by decide)) hr (a_cons (e_v 13) (a_cons (e_ix (kIxU ⟨K, w⟩) d_ixU (e_v 5) e_int (fun _ _ => rfl)) a_nil)))) a_nil))) (k_call (G__law_mean_at.up (by decide)) hr (a_cons (e_v 7) (a_cons (e_v 6) a_nil))) (nomark _)))))))))))))))), fun ds R hl hF => ?_⟩
  match ds, hl, hF with
  | [], _, q =>
    show rSeq _ _ _ [.src, .emp, .emp, .emp, .emp, .emp, .emp, .emp, .emp, .emp, .emp, .emp, .emp, .emp, .emp, .emp, .emp]
    have small3 : ∀ {m : Nat}, m ≤ 1000 → (m : Int).natAbs < 2 ^ 8000 := fun h => Nat.lt_of_lt_of_le (m := 2 ^ 10) (by omega) (Nat.pow_le_pow_right (by decide) (by decide))
    refine seq_hide fun K1 hK1 => ?_
    nested_key
    refine ⟨trivial, small3 (m := 3) (by decide), fun r h0 h1 => ?_⟩
    obtain ⟨n, hn, hn1, hn3⟩ : ∃ n : Nat, 1 + r = (n : Int) ∧ 1 ≤ n ∧ n ≤ 3 := ⟨(1 + r).toNat, by omega, by omega, by omega⟩
    dsimp only
    rw [hn]
    refine hK1 _ ?_
    clear hK1 h0 h1 hn
    refine seq_hide fun K2 hK2 => ?_
    nested_key
    refine ⟨trivial, trivial, ⟨by simp, by simp⟩, fun d hd => ?_⟩
    obtain ⟨b, rfl, hb⟩ : ∃ b : Nat, d = .int (b : Int) ∧ b ≤ 12 := by
      simp only [List.mem_cons, List.not_mem_nil, or_false] at hd
      rcases hd with rfl | rfl | rfl
      · exact ⟨2, rfl, by decide⟩
      · exact ⟨4, rfl, by decide⟩
      · exact ⟨12, rfl, by decide⟩
    clear hd
    refine ⟨n, b, 6, rfl, rfl, rfl, by decide, hn1, hn3, by omega, fun m hm => ?_⟩
    have bd := hm.bd
    have hml := hm.len
    clear hm
    refine ⟨trivial, small3 (by omega), fun r h0 h1 => ?_⟩
    obtain ⟨k, rfl, hk⟩ : ∃ k : Nat, r = (k : Int) ∧ k < n := ⟨r.toNat, by omega, by omega⟩
    clear h0 h1
    refine ⟨trivial, hK2 _ ?_⟩
    clear hK2
    have hrow : ∀ r ∈ m, r.1.length = n ∧ ∀ p ∈ r.1, 0 ≤ p ∧ p ≤ 12 := fun r hr => ⟨(bd.row r hr).1, fun p hp => ⟨((bd.row r hr).2.1 p hp).1, by have := ((bd.row r hr).2.1 p hp).2; omega⟩⟩
    have hrow4 : ∀ r ∈ m, r.1.length = n ∧ ∀ p ∈ r.1, 0 ≤ p ∧ p ≤ 40 := fun r hr => ⟨(hrow r hr).1, fun p hp => ⟨((hrow r hr).2 p hp).1, by have := ((hrow r hr).2 p hp).2; omega⟩⟩
    refine seq_hide fun K3 hK3 => ?_
    unfold mD
    nested_key
    rw [range_map, show ((n : Int)).toNat = n from rfl]
    refine ⟨⟨by omega, by omega⟩, fun k acc => acc = (((List.range n).take k).map fun k => (m.map fun r => r.1.getD k 0).foldl max 0).map D.int, rfl, fun k acc d hd h => ?_, fun acc h => ?_⟩
    · subst h
      obtain ⟨i, hi, rfl⟩ := of_map hd
      obtain ⟨rfl, hin⟩ := range_get hi
      refine ⟨fun k acc => acc = ((m.take k).map fun r => r.1.getD i 0).map D.int, rfl, fun k acc d hd h => ?_, fun acc h => ?_⟩
      · subst h
        obtain ⟨r, hr, rfl⟩ := of_map hd
        unfold rowD kD
        nested_key
        refine ⟨trivial, ?_⟩
        rw [kD_get (by rw [(hrow r (List.mem_of_getElem? hr)).1]; exact hin)]
        nested_key
        rw [take_map hr, List.map_append]; rfl
      · subst h
        rw [show (m.map rowD).length = m.length from List.length_map .., List.take_length]
        obtain ⟨n0, ns, e0⟩ := snoc_cons (m.map fun r => r.1.getD i 0) 0
        refine ⟨?_, n0, ns, ?_, ?_⟩
        · simp only [List.length_map]
          exact Nat.le_trans (m := 61) (by omega) (by decide)
        · exact (List.map_append (f := D.int) (l₁ := m.map fun r => r.1.getD i 0) (l₂ := [0])).symm.trans (by rw [e0, List.map_cons])
        rw [maxL_zero (fun x hx => by
          obtain ⟨r, hr, rfl⟩ := List.mem_map.mp hx
          obtain ⟨e1, hp⟩ := hrow r hr
          exact (hp _ (K49.getD_mem (by omega))).1) e0.symm]
        dsimp only
        rw [take_map hi, List.map_append]; rfl
    · subst h
      rw [List.length_map, List.take_length]
      refine hK3 _ ?_
      clear hK3
      have hbel := great_below hrow4
      have hgl : (great n m).length = n := great_len
      have hg : ∀ p ∈ great n m, 0 ≤ p ∧ p ≤ 12 := fun p hp => by
        obtain ⟨i, hi, rfl⟩ := K49.mem_getD hp
        rw [great_len] at hi
        rw [great_get hi]
        refine ⟨le_max (.inr (Int.le_refl _)), max_le (fun y hy => ?_) (by decide)⟩
        obtain ⟨r, hr, rfl⟩ := List.mem_map.mp hy
        obtain ⟨h1, h2⟩ := hrow r hr
        exact (h2 _ (K49.getD_mem (by omega))).2
      have hG : great n m = (List.range n).map fun k => (m.map fun r => r.1.getD k 0).foldl max 0 := rfl
      rw [← hG]
      clear hG
      refine seq_hide fun K4 hK4 => ?_
      nested_key
      refine ⟨by omega, fun j acc => ∃ s : List Int, acc = s.map D.int ∧ s.length = j ∧ (∀ x ∈ s, 1 ≤ x ∧ small 101 x), ⟨[], rfl, rfl, by simp⟩, fun j acc d hd h => ?_, fun acc h => ?_⟩
      · obtain ⟨s, rfl, h1, h2⟩ := h
        refine ⟨trivial, trivial, by unfold CPow; decide, ⟨by simp, by simp⟩, fun d hd => ?_⟩
        have hh : ∃ e : Int, d = .int e ∧ 1 ≤ e ∧ e ≤ 1000000000000000000000000000000 := by
          simp only [List.mem_cons, List.not_mem_nil, or_false] at hd
          rcases hd with rfl | rfl | rfl
          · exact ⟨3, rfl, by decide, by decide⟩
          · exact ⟨50, rfl, by decide, by decide⟩
          · exact ⟨_, rfl, by decide, by decide⟩
        obtain ⟨e, rfl, he1, he2⟩ := hh
        have hbig : (1000000000000000000000000000001 : Nat) < 2 ^ 101 := by decide +kernel
        refine ⟨Nat.lt_of_lt_of_le (m := 2 ^ 101) (by omega) (Nat.pow_le_pow_right (by decide) (by decide)), fun r g0 g1 => ?_⟩
        refine ⟨s ++ [1 + r], by rw [List.map_append]; rfl, by rw [List.length_append, h1]; rfl, fun y hy => ?_⟩
        rcases List.mem_append.mp hy with hy | hy
        · exact h2 y hy
        · rw [List.mem_singleton.mp hy]
          exact ⟨by omega, Nat.lt_of_le_of_lt (m := 1000000000000000000000000000001) (by omega) hbig⟩
      · obtain ⟨s, rfl, h1, h2⟩ := h
        rw [rangeD_len, show ((n : Int)).toNat = n from rfl] at h1
        subst h1
        have hS : SOk s := ⟨hn3, h2⟩
        have hS2 : ∀ x ∈ s, small 101 x := fun x hx => (h2 x hx).2
        have hmk : MOk s.length m := bd.mok (by decide) (by omega) (by decide)
        refine hK4 _ ?_
        clear hK4
        refine seq_hide fun K5 hK5 => ?_
        nested_key
        have hgr : great s.length m = great s.length m := rfl
        generalize hG : great s.length m = g at *
        have hgk := K49.getD_mem (k := g) (i := k) (by omega)
        obtain ⟨hg0, hg1⟩ := hg _ hgk
        rw [kD_get (by omega)]
        nested_key
        refine ⟨⟨by omega, by omega, by decide⟩, ?_⟩
        rw [rep_rows]
        refine hK5 _ ?_
        clear hK5
        have e1 : (g.getD k 0 + 1).toNat = (g.getD k 0).toNat + 1 := by omega
        rw [e1]
        have hml2 : mrow s k m = m.foldl (rowStep s g k) (List.replicate ((g.getD k 0).toNat + 1) 0) := by unfold mrow; rw [hG]
        have hR0 : (List.replicate ((g.getD k 0).toNat + 1) (0 : Int)).length = (g.getD k 0).toNat + 1 := List.length_replicate
        generalize List.replicate ((g.getD k 0).toNat + 1) (0 : Int) = R0 at *
        have hg4 : ∀ p ∈ g, 0 ≤ p ∧ p ≤ 40 := fun p hp => ⟨(hg p hp).1, by have := (hg p hp).2; omega⟩
        have ho : ∀ j, j < s.length → ∃ x, s[j]? = some x ∧ small 101 x ∧ (s.set k 1)[j]? = some (if j = k then 1 else x) := fun j hj => ⟨s[j], List.getElem?_eq_getElem hj, hS2 _ (List.getElem_mem hj), others_get (List.getElem?_eq_getElem hj)⟩
        refine seq_hide fun K6 hK6 => ?_
        nested_key
        refine ⟨by omega, fun j ρ => (∃ a, ρ = [.src, .val (.int s.length), .val (.lst (g.map D.int)), .val (kD s), a, .emp, .emp, .val (mD m), .val (.int k), .val (.int ((((s.set k 1).zip g).take j).foldl (fun x p => x * p.1 ^ p.2.toNat) 1)), .own (.lst (R0.map D.int)), .emp, .emp, .emp, .emp, .emp, .emp]) ∧ small (4042 * j + 1) ((((s.set k 1).zip g).take j).foldl (fun x p => x * p.1 ^ p.2.toNat) 1), ⟨⟨_, rfl⟩, by unfold small; simp⟩, fun j ρ d hd h => ?_, fun ρ h => ?_⟩
        · obtain ⟨⟨a, rfl⟩, ht⟩ := h
          obtain ⟨rfl, hj2⟩ := range_int hd
          have hj3 : j < s.length := hj2
          obtain ⟨x, hx, hx2, hx3⟩ := ho j hj3
          have hgj := getD_get (l := g) (i := j) (by omega)
          obtain ⟨hq0, hq1⟩ := hg4 _ (List.mem_of_getElem? hgj)
          have hz : ((s.set k 1).zip g)[j]? = some ((if j = k then 1 else x), g.getD j 0) := by rw [List.getElem?_zip_eq_some]; exact ⟨hx3, hgj⟩
          have hgj' : atI (g.map D.int) (j : Int) = some (.int (g.getD j 0)) := kD_get (by omega)
          have hxj : atI (s.map D.int) (j : Int) = some (.int x) := atI_nat (by rw [List.getElem?_map, hx]; rfl)
          generalize g.getD j 0 = y at *
          have hst := take_step (f := fun (x : Int) (p : Int × Int) => x * p.1 ^ p.2.toNat) (b := 1) hz
          generalize (((s.set k 1).zip g).take j).foldl (fun x p => x * p.1 ^ p.2.toNat) 1 = z at *
          have hp : small 4041 (x ^ y.toNat) := (small.pow hx2 y.toNat).mono (by omega)
          unfold kD
          nested_key
          refine ⟨⟨rfl, rfl⟩, ?_⟩
          rw [eqD_int]
          by_cases hjk : j = k
          · rw [if_pos hjk, Int.one_pow] at hst
            rw [if_neg (by simp [hjk])]
            rw [hst]
            refine ⟨.inl (.inr ⟨by omega, by omega⟩), ⟨_, by rw [Int.mul_one]⟩, ?_⟩
            rw [Int.mul_one]
            exact ht.mono (by omega)
          · rw [if_neg hjk] at hst
            rw [if_pos (by simp; omega), hxj, hgj']
            nested_key
            refine ⟨⟨hx2.mono (by decide), by omega, by omega⟩, mulW ht hp (by omega), ⟨_, by rw [hst]⟩, ?_⟩
            rw [hst]
            exact (ht.mul hp).mono (by omega)
        · obtain ⟨⟨a, rfl⟩, ht⟩ := h
          rw [rangeD_len, show ((s.length : Int)).toNat = s.length from rfl, show ((s.set k 1).zip g).take s.length = (s.set k 1).zip g from List.take_of_length_le (by rw [List.length_zip, List.length_set]; omega), pw_zip, Int.one_mul] at *
          refine hK6 _ ?_
          clear hK6
          refine seq_hide fun K7 hK7 => ?_
          unfold mD
          nested_key
          generalize hB : pw (s.set k 1) g = B at *
          refine ⟨fun t ρ => ∃ a b c, ρ = [.src, .val (.int s.length), .val (.lst (g.map D.int)), .val (kD s), a, .emp, .emp, .val (mD m), .val (.int k), .val (.int B), .own (.lst (((m.take t).foldl (rowStep s g k) R0).map D.int)), b, c, .emp, .emp, .emp, .emp], ⟨_, _, _, rfl⟩, fun t ρ d hd h => ?_, fun ρ h => ?_⟩
          · obtain ⟨a, b, c, rfl⟩ := h
            obtain ⟨r, hr, rfl⟩ := of_map hd
            have hrm := List.mem_of_getElem? hr
            obtain ⟨hr1, hr2⟩ := hrow r hrm
            have hr3 := (bd.row r hrm).2.2
            have hb := hbel r hrm
            obtain ⟨hb1, hb2⟩ := hb.sub
            have hrl : ((m.take t).foldl (rowStep s g k) R0).length = (g.getD k 0).toNat + 1 := by rw [rows_len2, hR0]
            have hst : (m.take (t + 1)).foldl (rowStep s g k) R0 = rowStep s g k ((m.take t).foldl (rowStep s g k) R0) r := by rw [take_step hr]
            generalize (m.take t).foldl (rowStep s g k) R0 = row at *
            have hpk := psub_get (g := g) (k := r.1) (i := k) (by omega) (by omega)
            obtain ⟨hb3, hb4, hb5⟩ := hb.2 k (by omega)
            unfold rowD kD
            nested_key
            refine ⟨trivial, by omega, fun j ρ => (∃ a, ρ = [.src, .val (.int s.length), .val (.lst (g.map D.int)), .val (kD s), a, .emp, .emp, .val (mD m), .val (.int k), .val (.int B), .own (.lst (row.map D.int)), .val (kD r.1), .val (.int ((((s.set k 1).zip (g.zip r.1)).take j).foldl (fun x p => x * p.1 ^ (p.2.1 - p.2.2).toNat) r.2)), .emp, .emp, .emp, .emp]) ∧ small (4042 * j + 31) ((((s.set k 1).zip (g.zip r.1)).take j).foldl (fun x p => x * p.1 ^ (p.2.1 - p.2.2).toNat) r.2), ⟨⟨_, rfl⟩, hr3.mono (by omega)⟩, fun j ρ d hd h => ?_, fun ρ h => ?_⟩
            · obtain ⟨⟨a, rfl⟩, ht⟩ := h
              obtain ⟨rfl, hj2⟩ := range_int hd
              have hj3 : j < s.length := hj2
              obtain ⟨x, hx, hx2, hx3⟩ := ho j hj3
              have hgj := getD_get (l := g) (i := j) (by omega)
              have hrj := getD_get (l := r.1) (i := j) (by omega)
              obtain ⟨hq0, hq1, hq2⟩ := hb.2 j (by omega)
              have hz : ((s.set k 1).zip (g.zip r.1))[j]? = some ((if j = k then 1 else x), g.getD j 0, r.1.getD j 0) := by
                rw [List.getElem?_zip_eq_some]; exact ⟨hx3, by rw [List.getElem?_zip_eq_some]; exact ⟨hgj, hrj⟩⟩
              have hgj' : atI (g.map D.int) (j : Int) = some (.int (g.getD j 0)) := kD_get (by omega)
              have hrj' : atI (r.1.map D.int) (j : Int) = some (.int (r.1.getD j 0)) := kD_get (by omega)
              have hxj : atI (s.map D.int) (j : Int) = some (.int x) := atI_nat (by rw [List.getElem?_map, hx]; rfl)
              generalize g.getD j 0 = y at *
              generalize r.1.getD j 0 = u at *
              have hst := take_step (f := fun (x : Int) (p : Int × Int × Int) => x * p.1 ^ (p.2.1 - p.2.2).toNat) (b := r.2) hz
              generalize (((s.set k 1).zip (g.zip r.1)).take j).foldl (fun x p => x * p.1 ^ (p.2.1 - p.2.2).toNat) r.2 = z at *
              dsimp only at hst
              have hp : small 4041 (x ^ (y - u).toNat) := (small.pow hx2 (y - u).toNat).mono (by omega)
              unfold kD
              nested_key
              refine ⟨⟨rfl, rfl⟩, ?_⟩
              rw [eqD_int]
              by_cases hjk : j = k
              · rw [if_pos hjk, Int.one_pow] at hst
                rw [if_neg (by simp [hjk])]
                rw [hst]
                refine ⟨.inl (.inr ⟨by omega, by omega⟩), ⟨_, by rw [Int.mul_one]⟩, ?_⟩
                rw [Int.mul_one]
                exact ht.mono (by omega)
              · rw [if_neg hjk] at hst
                rw [if_pos (by simp; omega), hxj, hgj']
                nested_key
                rw [hrj']
                nested_key
                refine ⟨⟨hx2.mono (by decide), by omega, by omega⟩, mulW ht hp (by omega), ⟨_, by rw [hst]⟩, ?_⟩
                rw [hst]
                exact (ht.mul hp).mono (by omega)
            · obtain ⟨⟨a, rfl⟩, ht⟩ := h
              rw [rangeD_len, show ((s.length : Int)).toNat = s.length from rfl, show ((s.set k 1).zip (g.zip r.1)).take s.length = (s.set k 1).zip (g.zip r.1) from List.take_of_length_le (by rw [List.length_zip, List.length_set]; omega), pw_zip3] at *
              have hgk' : atI (g.map D.int) (k : Int) = some (.int (g.getD k 0)) := kD_get (by omega)
              have hrk' : atI (r.1.map D.int) (k : Int) = some (.int (r.1.getD k 0)) := kD_get (by omega)
              have hrs : (m.take (t + 1)).foldl (rowStep s g k) R0 = row.set ((psub g r.1).getD k 0).toNat (row.getD ((psub g r.1).getD k 0).toNat 0 + r.2 * pw (s.set k 1) (psub g r.1)) := hst
              generalize r.2 * pw (s.set k 1) (psub g r.1) = z at *
              rw [hpk] at hrs
              have hlt : (g.getD k 0 - r.1.getD k 0).toNat < row.length := by rw [hrl]; omega
              have hat : atI (row.map D.int) (g.getD k 0 - r.1.getD k 0) = some (.int (row.getD (g.getD k 0 - r.1.getD k 0).toNat 0)) := by
                rw [show g.getD k 0 - r.1.getD k 0 = ((g.getD k 0 - r.1.getD k 0).toNat : Int) by omega]; exact kD_get hlt
              unfold kD
              nested_key
              rw [hgk', hrk']
              nested_key
              rw [hat]
              nested_key
              refine ⟨rfl, _, (g.getD k 0 - r.1.getD k 0).toNat, rfl, ?_, ?_⟩
              · rw [List.length_map]
                unfold ixN
                rw [if_pos (by omega), if_pos (by omega)]
              · rw [hrs, List.map_set]
                exact ⟨_, _, _, rfl⟩
          · obtain ⟨a, b, c, rfl⟩ := h
            rw [List.length_map, List.take_length, ← hml2]
            refine hK7 _ ?_
            clear hK7
            refine seq_hide fun K8 hK8 => ?_
            nested_key
            refine ⟨m, s, k, rfl, rfl, rfl, hS, hmk, hk, ?_⟩
            rw [hG, hB]
            have hr0 : ∀ r ∈ m, small 12157 (r.2 * pw (s.set k 1) (psub g r.1)) := fun r hr =>
              ((bd.row r hr).2.2.mul (pw_small3 (by rw [List.length_set]; exact hS.1) (set_small hS2) (hbel r hr).sub.2)).mono (by decide)
            have hms : ∀ c ∈ mrow s k m, small 12160 c := mrow_small hml (by rw [hG]; exact hr0)
            have hmrl : (mrow s k m).length = (g.getD k 0).toNat + 1 := by rw [mrow_len, hG]
            have hend : ∀ n : Int, 1 ≤ n → fr (evT n (mrow s k m) (mrow s k m).length) (B * n ^ (g.getD k 0).toNat) = frac (val (s.set k n) m) := fun n hn => by
              have := row_end (n := n) hk (m := m) (fun x hx => by
                rcases List.mem_or_eq_of_mem_set hx with hx | rfl
                · exact (h2 x hx).1
                · exact hn) hrow4
              rw [hG, hB] at this
              exact this
            have htot : ∀ n : Int, small 101 n → small 12160 (evT n (mrow s k m) (mrow s k m).length) := fun n hn => by
              rw [ev_mrow hk hrow4, hG]
              have := tot_smallB (s := s.set k n) (g := g) (P := 12127) (N := 30) (m := m) fun r hr => ⟨pw_small3 (by rw [List.length_set]; exact hS.1) (fun x hx => by
                rcases List.mem_or_eq_of_mem_set hx with hx | rfl
                · exact hS2 x hx
                · exact hn) (hbel r hr).sub.2, (bd.row r hr).2.2⟩
              unfold small
              have e : (2 : Nat) ^ 12160 = 8 * 2 ^ (30 + 12127) := by rw [Nat.mul_comm, show 12160 = 30 + 12127 + 1 + 1 + 1 from rfl, Nat.pow_succ, Nat.pow_succ, Nat.pow_succ]
              rw [e]
              have h1 : 0 < (2 : Nat) ^ (30 + 12127) := Nat.two_pow_pos _
              generalize (2 : Nat) ^ (30 + 12127) = z at *
              have := Nat.mul_le_mul_right z hml
              omega
            have hBs : small 12127 B := by rw [← hB]; exact pw_small3 (by rw [List.length_set]; exact hS.1) (set_small hS2) hg4
            clear hml2 hr0 hR0
            generalize mrow s k m = row at *
            refine hK8 _ ?_
            clear hK8
            refine seq_hide fun K9 hK9 => ?_
            unfold kD
            nested_key
            refine ⟨s.length, m, rfl, rfl, by omega, by omega, fun r hr => ⟨(hrow r hr).1, fun p hp => ((hrow r hr).2 p hp).1⟩, ?_⟩
            rw [hG, kD_get (by omega)]
            have sI : ∀ {i : Int}, small 12160 i → Shows 200000 1 (.int i) := fun h => (shows_sm (k := 4300) h (by decide) (by decide) (by decide)).mono (by decide) (by decide)
            have sI0 : ∀ {i : Int}, small 12160 i → Shows 4302 0 (.int i) := fun h => shows_sm (k := 4300) h (by decide) (by decide) (by decide)
            have lo10 : ∀ p : Int, 0 ≤ p ∧ p ≤ 12 → small 12160 p := fun p hp => Nat.lt_of_lt_of_le (m := 2 ^ 10) (by omega) (Nat.pow_le_pow_right (by decide) (by decide))
            have sT : ∀ l : List Int, (∀ c ∈ l, small 12160 c) → l.length ≤ 41 → Shows 200000 1 (.tup (l.map D.int)) := fun l hl h1 => by
              have := shows_tup (n := 4302) (j := 0) (ds := l.map D.int) fun d hd => by
                obtain ⟨c, hc, rfl⟩ := List.mem_map.mp hd
                exact sI0 (hl c hc)
              refine this.mono ?_ (by decide)
              rw [List.length_map]
              have := Nat.mul_le_mul_right (4302 + 2) h1
              omega
            have s1 : Shows 700000 2 (.tup [.tup (row.map D.int), .int (g.getD k 0), .int B]) := (shows_tup (all_cons (sT row hms (by omega)) (all_cons (sI (lo10 _ ⟨hg0, hg1⟩)) (all_cons (sI (hBs.mono (by decide))) all_nil)))).mono (by show 3 * (200000 + 2) + 3 ≤ 700000; decide) (by decide)
            have s2 : Shows 700000 2 (.tup (g.map D.int)) := (sT g (fun c hc => lo10 c (hg c hc)) (by omega)).mono (by decide) (by decide)
            have so : showOk (.lst [.tup [.tup (row.map D.int), .int (g.getD k 0), .int B], .tup (g.map D.int)]) := shows_all (all_cons s1 (all_cons s2 all_nil)) (by show 2 * (700000 + 2) + 3 ≤ sizeLine; decide) (by decide)
            refine ⟨so, ?_⟩
            nested_key
            refine ⟨so, ?_⟩
            rw [show kD g = .tup (g.map D.int) from rfl]
            rw [if_neg (by simp)]
            refine hK9 _ ?_
            clear hK9 so s1 s2 sT sI sI0
            refine seq_hide fun K10 hK10 => ?_
            nested_key
            refine ⟨trivial, by unfold CPow; decide, by decide, fun r h0 h1 => ?_⟩
            have hbig : (1000000000000000000000000000001 : Nat) < 2 ^ 101 := by decide +kernel
            obtain ⟨n, hn, hn1, hn2⟩ : ∃ n : Int, 1 + r = n ∧ 1 ≤ n ∧ small 101 n := ⟨1 + r, rfl, by omega, by
              have : r < 1000000000000000000000000000000 ∨ r = 0 := by simpa using h1
              exact Nat.lt_of_le_of_lt (m := 1000000000000000000000000000001) (by omega) hbig⟩
            dsimp only
            rw [hn]
            clear h0 h1 hn
            refine ⟨trivial, hK10 _ ?_⟩
            clear hK10
            have hend := hend n hn1
            have htot := htot n hn2
            refine seq_hide fun K11 hK11 => ?_
            nested_key
            refine ⟨immK row, fun j ρ => j ≤ row.length ∧ ∃ x y, ρ = [.src, .val (.int s.length), .val (.lst (g.map D.int)), .val (.tup (s.map D.int)), a, .val (.tup [.tup (row.map D.int), .int (g.getD k 0), .int B]), .emp, .val (mD m), .val (.int k), .val (.int B), .val (.lst (row.map D.int)), b, c, .val (.int n), .val (.int (evT n row j)), x, y], ⟨Nat.zero_le _, _, _, rfl⟩, fun j ρ d hd h => ?_, fun ρ h => ?_⟩
            · obtain ⟨hj, x, y, rfl⟩ := h
              obtain ⟨z, hz, rfl⟩ := enum_get hd
              have hj3 : j < row.length := (List.getElem?_eq_some_iff.mp hz).1
              have hzs := hms z (List.mem_of_getElem? hz)
              have hzd : row.getD j 0 = z := by rw [List.getD_eq_getElem?_getD, hz]; rfl
              have hps : small 4041 (n ^ j) := (small.pow hn2 j).mono (by omega)
              rw [Nat.zero_add]
              nested_key
              refine ⟨trivial, ⟨hn2.mono (by decide), by omega, by omega⟩, ?_⟩
              nested_key
              rw [show ((j : Int)).toNat = j from rfl]
              refine ⟨mulW hzs hps (by decide), by omega, _, _, by rw [show evT n row (j + 1) = evT n row j + row.getD j 0 * n ^ j from rfl, hzd]⟩
            · obtain ⟨hj, x, y, rfl⟩ := h
              rw [enum_len]
              refine hK11 _ ?_
              clear hK11
              refine seq_hide fun K12 hK12 => ?_
              nested_key
              refine ⟨by omega, fun j acc => acc = ((s.set k n).take j).map D.int, rfl, fun j acc d hd h => ?_, fun acc h => ?_⟩
              · subst h
                obtain ⟨rfl, hj2⟩ := range_int hd
                have hj3 : j < s.length := hj2
                have hx : s[j]? = some s[j] := List.getElem?_eq_getElem hj3
                have hx3 : (s.set k n)[j]? = some (if j = k then n else s[j]) := by
                  by_cases e : j = k
                  · subst e
                    rw [if_pos rfl, List.getElem?_set_self hj3]
                  · rw [if_neg e, List.getElem?_set_ne (fun z => e z.symm), hx]
                have hxj : atI (s.map D.int) (j : Int) = some (.int s[j]) := atI_nat (by rw [List.getElem?_map, hx]; rfl)
                nested_key
                refine ⟨⟨rfl, rfl⟩, ?_⟩
                rw [eqD_int, take_map hx3]
                by_cases e : j = k
                · rw [if_pos (by simp [e]), if_pos e]
                · rw [if_neg (by simp; omega), if_neg e, hxj]
              · subst h
                rw [rangeD_len, show ((s.length : Int)).toNat = s.length from rfl, show (s.set k n).take s.length = s.set k n from List.take_of_length_le (by rw [List.length_set]; exact Nat.le_refl _)]
                refine hK12 _ ?_
                clear hK12
                nested_key
                have hgs : small 4041 (n ^ (g.getD k 0).toNat) := (small.pow hn2 _).mono (by omega)
                have hpos : 0 < B := by rw [← hB]; exact pw_ne (fun x hx => by
                  rcases List.mem_or_eq_of_mem_set hx with hx | rfl
                  · exact (h2 x hx).1
                  · decide)
                have hpn : 0 < n ^ (g.getD k 0).toNat := Int.pow_pos (by omega)
                have hq0 := Int.mul_pos hpos hpn
                refine ⟨⟨hn2.mono (by decide), by omega, by omega⟩, ?_⟩
                nested_key
                refine ⟨mulW hBs hgs (by decide), ⟨by omega, htot.mono (by decide), ?_⟩, ?_⟩
                · have hB2 : small 3643 B := by
                    have := pw_smallB (B := 12) (s := s.set k 1) (k := g) (set_small hS2) fun p hp => ⟨(hg p hp).1, by have := (hg p hp).2; omega⟩
                    rw [hB, List.length_set] at this
                    exact this.mono (by have := hS.1; omega)
                  have hg2 : small 1213 (n ^ (g.getD k 0).toNat) := (small.pow hn2 _).mono (by omega)
                  exact (hB2.mul hg2).mono (by decide)
                rw [hend]
                refine ⟨m, s.set k n, rfl, rfl, ⟨by rw [List.length_set]; exact hS.1, fun x hx => ?_⟩, by rw [List.length_set]; exact hmk, ⟨eqOk_fr _, eqOk_fr _⟩, ?_⟩
                · rcases List.mem_or_eq_of_mem_set hx with hx | rfl
                  · exact h2 x hx
                  · exact ⟨hn1, hn2⟩
                · rw [eqD_fr]; exact q

abbrev s__law_kinds_right : Stmt := topS 32
theorem sc__law_kinds_right : FnScope ["source", "odd", "kinds", "mean", "fraction", "values", "deep", "turn", "value", "held", "due", "look"] ["source", "odd"] (defScope s__law_kinds_right) := ⟨rfl, rfl, rfl, by decide +kernel, rfl, by decide +kernel, by decide +kernel⟩
theorem ok__law_kinds_right {f : Addr} {fd : FuncData} (T : Txt mg) (F : Fun K "_law_kinds_right" "_law_kinds_right" s__law_kinds_right f fd) (gm : mg "_law_kinds_right" = some (.ref f)) (nd : base.NoDigits) (G_is_integer : Df P w K mg base "is_integer" 1 (spD ⟨K, w⟩ 1 F_is_integer)) (G_is_fraction : Df P w K mg base "is_fraction" 2 (spD ⟨K, w⟩ 1 F_is_fraction)) (G_is_mean : Df P w K mg base "is_mean" 4 (spD ⟨K, w⟩ 2 F_is_mean)) (G__law_pick : Df P w K mg base "_law_pick" 1 (spS ⟨K, w⟩ 1 F__law_pick)) (G__law_of : Df P w K mg base "_law_of" 2 (spS ⟨K, w⟩ 1 F__law_of)) (G__law_fraction : Df P w K mg base "_law_fraction" 1 (spD ⟨K, w⟩ 2 F__law_fraction)) (G__law_drawn_mean : Df P w K mg base "_law_drawn_mean" 3 (spS ⟨K, w⟩ 3 F__law_drawn_mean)) (G__law_bent : Df P w K mg base "_law_bent" 6 (spS ⟨K, w⟩ 2 F__law_bent)) (G__law_is_int : Df P w K mg base "_law_is_int" 1 (spD ⟨K, w⟩ 1 F__law_is_int)) (G__law_is_mean : Df P w K mg base "_law_is_mean" 2 (spD ⟨K, w⟩ 2 F__law_is_mean)) (G__law_is_fraction : Df P w K mg base "_law_is_fraction" 2 (spD ⟨K, w⟩ 1 F__law_is_fraction)) : Df P w K mg base "_law_kinds_right" 7 (spS ⟨K, w⟩ 1 F__law_kinds_right) := by
  refine fn_S F gm sc__law_kinds_right rfl (fun _ _ _ _ _ _ us hl => match us, hl with | [_, _], _ => rfl) fun cdv A outer s H E hr => ?_
  refine ⟨_, (s_cons (s_set 2 sc__law_kinds_right.nd (e_op (kAdd ⟨K, w⟩) d_addU e_int (k_callS 0 (G__law_pick.up (by decide)) hr (a_cons e_int a_nil))))
      (s_cons (s_set 3 sc__law_kinds_right.nd (k_callS 0 (G__law_drawn_mean.up (by decide)) hr (a_cons (e_v 2) (a_cons e_int (a_cons e_int a_nil)))))
      (s_cons (s_set 4 sc__law_kinds_right.nd (k_call (G__law_fraction.up (by decide)) hr (a_cons (e_op op_sub d_sub (k_callS 0 (G__law_pick.up (by decide)) hr (a_cons e_int a_nil)) e_int) (a_cons (e_op (kAdd ⟨K, w⟩) d_addU e_int (k_callS 0 (G__law_pick.up (by decide)) hr (a_cons e_int a_nil))) a_nil))))
      (s_cons (s_set 5 sc__law_kinds_right.nd (DF.de (e_lst (a_cons (e_v 3) (a_cons (DF.de (k_list ⟨K, w⟩ T.list (a_cons (e_v 3) a_nil))) (a_cons (k_revU (b := true) ⟨K, w⟩ (e_v 3)) (a_cons (e_op (kAdd ⟨K, w⟩) d_addU (e_v 3) (k_sl (b := true) ⟨K, w⟩ (e_v 3) (o_some (b := true) (e_un un_neg d_neg e_int)) o_none)) (a_cons (e_v 4) (a_cons (e_tup (a_cons (e_op (kMul ⟨K, w⟩) d_mulA (e_ix (kIxU ⟨K, w⟩) d_ixU (e_v 4) e_int (fun _ _ => rfl)) e_int) (a_cons (e_op (kMul ⟨K, w⟩) d_mulA (e_ix (kIxU ⟨K, w⟩) d_ixU (e_v 4) e_int (fun _ _ => rfl)) e_int) a_nil))) a_nil)))))))))
      (s_cons (s_set 5 sc__law_kinds_right.nd (e_op (kAdd ⟨K, w⟩) d_addU (e_op (kAdd ⟨K, w⟩) d_addU (e_v 5) (e_v 1)) (DF.de (e_lc [("look", 11)] rfl sc__law_kinds_right.nd (i_range1 (b := true) T.range (a_cons e_int a_nil)) (blkOk_by (own := [("look", 11)]) rfl) (fun _ _ _ _ _ => (g_name 11 sc__law_kinds_right.nd)) (fun _ _ _ _ _ => (k_callS 0 (G__law_bent.up (by decide)) hr (a_cons (e_v 3) (a_cons (e_v 1) a_nil))))))))
      (s_cons (s_set 6 sc__law_kinds_right.nd (k_callS 0 (G__law_of.up (by decide)) hr (a_cons (e_v 1) a_nil)))
      (s_cons (s_for PassesOwn.never rfl (i_range1 (b := true) T.range (a_cons e_int a_nil)) (g_name 7 sc__law_kinds_right.nd) (s_one (s_set 6 sc__law_kinds_right.nd (e_if (t_cmp (b := true) (kEq ⟨K, w⟩ hr.u64) d_eqD (k_callS 0 (G__law_pick.up (by decide)) hr (a_cons e_int a_nil)) e_int (nomark _)) (DF.de (e_lst (a_cons (e_v 6) a_nil))) (e_tup (a_cons (e_v 6) a_nil))))))
      (s_cons (s_for PassesOwn.never rfl (ki_seq ⟨K, w⟩ (e_op (kAdd ⟨K, w⟩) d_addU (e_op (kAdd ⟨K, w⟩) d_addU (e_v 5) (DF.de (e_lst (a_cons (e_v 6) (a_cons (e_tup (a_cons (e_v 6) a_nil)) a_nil))))) (DF.de (e_lc [("look", 11)] rfl sc__law_kinds_right.nd (i_range1 (b := true) T.range (a_cons e_int a_nil)) (blkOk_by (own := [("look", 11)]) rfl) (fun _ _ _ _ _ => (g_name 11 sc__law_kinds_right.nd)) (fun _ _ _ _ _ => (k_callS 0 (G__law_bent.up (by decide)) hr (a_cons (e_v 4) (a_cons (e_v 1) a_nil)))))))) (g_name 8 sc__law_kinds_right.nd) (s_cons (s_par 9 10 rfl sc__law_kinds_right.nd (a_cons (k_reprX (b := true) ⟨K, w⟩ hr nd T.repr (a_cons (e_v 8) a_nil)) (a_cons (DF.de (e_lst (a_cons (k_call (G__law_is_mean.up (by decide)) hr (a_cons (e_v 2) (a_cons (e_v 8) a_nil))) (a_cons (k_call (G__law_is_fraction.up (by decide)) hr (a_cons (e_v 8) a_nil)) (a_cons (k_call (G__law_is_int.up (by decide)) hr (a_cons (e_v 8) a_nil)) a_nil))))) a_nil)))
      (s_one (s_if (DW.t (w_or (t_cmp (b := true) op_ne d_neS (k_reprX (b := true) ⟨K, w⟩ hr nd T.repr (a_cons (DF.de (e_lst (a_cons (k_call (G_is_mean.up (by decide)) hr (a_cons (e_v 2) (a_cons (e_v 8) a_nil))) (a_cons (k_call (G_is_fraction.up (by decide)) hr (a_cons (e_v 8) a_nil)) (a_cons (k_call (G_is_integer.up (by decide)) hr (a_cons (e_v 8) a_nil)) a_nil))))) a_nil)) (k_reprX (b := true) ⟨K, w⟩ hr nd T.repr (a_cons (e_v 10) a_nil)) (nomark _)) (w_or1 (t_cmp (b := true) op_ne d_neS (k_reprX (b := true) ⟨K, w⟩ hr nd T.repr (a_cons (e_v 8) a_nil)) (e_v 9) (nomark _))))) (s_one (s_ret e_bl)) s_nil))))
      (s_one (s_ret e_bl)))))))))), fun ds R hl hF => ?_⟩
  match ds, hl, hF with
  | [o], _, h =>
    obtain ⟨os, rfl, ⟨ho1, ho2, ho3⟩, q⟩ := h
    show rSeq _ _ _ [.src, .val (.lst os), .emp, .emp, .emp, .emp, .emp, .emp, .emp, .emp, .emp, .emp]
    have small3 : ∀ {m : Nat}, m ≤ 1000 → (m : Int).natAbs < 2 ^ 8000 := fun h => Nat.lt_of_lt_of_le (m := 2 ^ 10) (by omega) (Nat.pow_le_pow_right (by decide) (by decide))
    refine seq_hide fun K1 hK1 => ?_
    nested_key
    refine ⟨trivial, small3 (m := 3) (by decide), fun r h0 h1 => ?_⟩
    obtain ⟨n, hn, hn1, hn3⟩ : ∃ n : Nat, 1 + r = (n : Int) ∧ 1 ≤ n ∧ n ≤ 3 := ⟨(1 + r).toNat, by omega, by omega, by omega⟩
    dsimp only
    rw [hn]
    refine hK1 _ ?_
    clear hK1 h0 h1 hn
    refine seq_hide fun K2 hK2 => ?_
    nested_key
    refine ⟨trivial, n, 4, 4, rfl, rfl, rfl, by decide, hn1, hn3, by decide, fun m hm => ?_⟩
    have bd := hm.bd
    have cn := hm.canon
    clear hm
    have hrD : ∀ d ∈ m.map rowD, Het 450 2 d := fun d hd => by
      obtain ⟨r, hr, rfl⟩ := List.mem_map.mp hd
      exact het_row (bd.row r hr) hn3 (by decide) (by decide)
    have hml : (m.map rowD).length ≤ 6 := by rw [List.length_map]; exact bd.len
    have pvm : PV 3 (.tup (m.map rowD)) := pv_mean bd hn3 (by decide) (by decide) (by decide)
    rw [show mD m = .tup (m.map rowD) from rfl]
    generalize m.map rowD = M at *
    clear cn bd
    refine hK2 _ ?_
    clear hK2
    refine seq_hide fun K3 hK3 => ?_
    nested_key
    refine ⟨trivial, small3 (m := 41) (by decide), fun r h0 h1 => ?_⟩
    refine ⟨trivial, small3 (m := 20) (by decide), fun t h2 h3 => ?_⟩
    nested_key
    have lo100 : ∀ {i : Int}, i.natAbs ≤ 1000 → small 98 i := fun h => Nat.lt_of_le_of_lt h (by decide)
    have hq0 : 1 + t ≠ 0 := by omega
    have hx := fr_ok hq0 (lo100 (i := r - 20) (by omega)) (lo100 (i := 1 + t) (by omega))
    refine ⟨⟨hq0, (lo100 (i := r - 20) (by omega)).mono (by decide), (lo100 (i := 1 + t) (by omega)).mono (by decide)⟩, ?_⟩
    generalize fr (r - 20) (1 + t) = x at *
    obtain ⟨a, b⟩ := x
    have sa := hx.s1
    have sb := hx.s2
    dsimp only at sa sb
    clear hx hq0 h0 h1 h2 h3
    refine hK3 _ ?_
    clear hK3
    refine seq_hide fun K4 hK4 => ?_
    nested_key
    have hcl : (DL.cutD M (some (-1)) none).length ≤ M.length := cut_len
    have hcm : ∀ x ∈ M ++ DL.cutD M (some (-1)) none, Het 450 2 x := hets_append hrD fun x hx => hrD x (cut_mem x hx)
    generalize DL.cutD M (some (-1)) none = C at *
    refine ⟨Nat.le_trans (m := 12) (by omega) (by decide), ?_⟩
    rw [show frD (a, b) = .tup [.int a, .int b] from rfl]
    nested_key
    have m1 : ∀ {i : Int}, small 98 i → CMulA i 2 := fun h => mulW h (show small 98 2 by unfold small; decide) (by decide)
    refine ⟨m1 sa, m1 sb, ?_⟩
    have hvs : ∀ x ∈ [D.tup M, .lst M, .tup M.reverse, .tup (M ++ C), .tup [.int a, .int b], .tup [.int (a * 2), .int (b * 2)]], HV x :=
      have t2 : small 2 2 := by unfold small; decide
      hv_cons (hv_rows_tup hrD (by omega)) (hv_cons (hv_rows_lst hrD (by omega)) (hv_cons (hv_rows_tup (fun x hx => hrD x (List.mem_reverse.mp hx)) (by rw [List.length_reverse]; omega))
        (hv_cons (hv_rows_tup hcm (by rw [List.length_append]; omega)) (hv_cons (hv_pair (sa.mono (by decide)) (sb.mono (by decide)))
          (hv_cons (hv_pair ((sa.mul t2).mono (by decide)) ((sb.mul t2).mono (by decide))) hets_nil)))))
    have hvl : [D.tup M, .lst M, .tup M.reverse, .tup (M ++ C), .tup [.int a, .int b], .tup [.int (a * 2), .int (b * 2)]].length = 6 := rfl
    generalize [D.tup M, .lst M, .tup M.reverse, .tup (M ++ C), .tup [.int a, .int b], .tup [.int (a * 2), .int (b * 2)]] = Vs at *
    clear m1 hcm hcl hrD hml
    have pvx : PV 3 (.tup [.int a, .int b]) := pv_pair (sa.mono (by decide)) (sb.mono (by decide))
    generalize D.tup [.int a, .int b] = fx at *
    generalize D.tup M = mx at *
    have hO : os ≠ [] ∧ os.length ≤ 1000 ∧ ∀ x ∈ os, Het 1000 10 x := ⟨ho1, by omega, ho3⟩
    have hvo : ∀ x ∈ os, HV x := fun x hx => (ho3 x hx).mono (by decide) (by decide)
    have hvb : ∀ {d : D}, Het (HB 3) (10 + 3) d → HV d := fun h => h.mono (by decide) (by decide)
    refine hK4 _ ?_
    clear hK4
    refine seq_hide fun K5 hK5 => ?_
    nested_key
    refine ⟨Nat.le_trans (m := 100) (by omega) (by decide), by decide, fun j acc => (∀ x ∈ acc, HV x) ∧ acc.length = j, ⟨hets_nil, rfl⟩, fun j acc d hd h => ?_, fun acc h => ?_⟩
    · obtain ⟨h1, h2⟩ := h
      refine ⟨trivial, os, by decide, rfl, pvm, hO, fun d hd => ⟨hv_append h1 (hv_cons (hvb hd) hets_nil), by rw [List.length_append, h2]; rfl⟩⟩
    obtain ⟨h1, h2⟩ := h
    rw [rangeD_len, show Int.toNat 10 = 10 from rfl] at h2
    refine ⟨Nat.le_trans (m := 100) (by rw [List.length_append]; omega) (by decide), ?_⟩
    have hvs2 : ∀ x ∈ Vs ++ os ++ acc, HV x := hv_append (hv_append hvs hvo) h1
    have hvl2 : (Vs ++ os ++ acc).length ≤ 46 := by rw [List.length_append, List.length_append]; omega
    generalize Vs ++ os ++ acc = Ws at *
    clear hvs hvl h1 h2
    refine hK5 _ ?_
    clear hK5
    refine seq_hide fun K6 hK6 => ?_
    nested_key
    refine ⟨trivial, ⟨ho1, by omega⟩, fun deep0 hdeep0 => ?_⟩
    have hd0 := ho3 deep0 hdeep0
    refine hK6 _ ?_
    clear hK6 hdeep0
    refine seq_hide fun K7 hK7 => ?_
    nested_key
    refine ⟨by decide, fun j ρ => ∃ d t, ρ = [.src, .val (.lst os), .val (.int n), .val mx, .val fx, .val (.lst Ws), .val d, t, .emp, .emp, .emp, .emp] ∧ Het (1000 + 5 * j) (10 + j) d, ⟨_, _, rfl, hd0⟩, fun j ρ e hd h => ?_, fun ρ h => ?_⟩
    · obtain ⟨d, t, rfl, hh⟩ := h
      nested_key
      refine ⟨trivial, small3 (m := 5) (by decide), fun r h0 h1 => ⟨⟨rfl, rfl⟩, ?_⟩⟩
      rw [eqD_int]
      by_cases hr : r = 0
      · rw [if_pos (by simp [hr])]
        exact ⟨_, _, rfl, (het_lst (ds := [d]) (hets_cons hh hets_nil)).mono (by show 1 * (1000 + 5 * j + 2) + 3 ≤ _; omega) (by omega)⟩
      · rw [if_neg (by simp [hr])]
        exact ⟨_, _, rfl, (het_tup (ds := [d]) (hets_cons hh hets_nil)).mono (by show 1 * (1000 + 5 * j + 2) + 3 ≤ _; omega) (by omega)⟩
    obtain ⟨deep, t, rfl, hdp⟩ := h
    rw [rangeD_len, show Int.toNat 36 = 36 from rfl] at hdp
    have hdp2 : HV deep := hdp.mono (by decide) (by decide)
    have hdp3 : HV (.tup [deep]) := (het_tup (ds := [deep]) (hets_cons hdp hets_nil)).mono (by show 1 * (1000 + 5 * 36 + 2) + 3 ≤ _; decide) (by decide)
    clear hdp hd0
    refine hK7 _ ?_
    clear hK7
    refine seq_hide fun K8 hK8 => ?_
    nested_key
    refine ⟨Nat.le_trans (m := 100) (by omega) (by decide), by decide, fun j acc => (∀ x ∈ acc, HV x) ∧ acc.length = j, ⟨hets_nil, rfl⟩, fun j acc d hd h => ?_, fun acc h => ?_⟩
    · obtain ⟨h1, h2⟩ := h
      refine ⟨trivial, os, by decide, rfl, pvx, hO, fun d hd => ⟨hv_append h1 (hv_cons (hvb hd) hets_nil), by rw [List.length_append, h2]; rfl⟩⟩
    obtain ⟨h1, h2⟩ := h
    rw [rangeD_len, show Int.toNat 6 = 6 from rfl] at h2
    have hal : ∀ x ∈ Ws ++ [deep, .tup [deep]] ++ acc, HV x := hv_append (hv_append hvs2 (hv_cons hdp2 (hv_cons hdp3 hets_nil))) h1
    refine ⟨Nat.le_trans (m := 100) (by rw [List.length_append, h2]; show Ws.length + 2 + 6 ≤ 100; omega) (by decide), ?_⟩
    generalize Ws ++ [deep, .tup [deep]] ++ acc = L at *
    refine ⟨fun j ρ => ∃ a b c d, ρ = [.src, .val (.lst os), .val (.int n), .val mx, .val fx, .val (.lst Ws), .val deep, t, a, b, c, d], ⟨_, _, _, _, rfl⟩, fun j ρ d hd h => ?_, fun ρ h => ?_⟩
    · obtain ⟨a, b, c, e, rfl⟩ := h
      have hv := hal d (List.mem_of_getElem? hd)
      have hok : hetOk d := hv.ok (by decide) (by decide)
      have hib := hv.ib
      have hcount : ∀ xs, d = .tup xs → xs.length ≤ 10000000 := fun xs e => by
        rw [e] at hv
        exact Nat.le_trans hv.count (by decide)
      clear hal hd
      nested_key
      have due := due_ok (isMeanB n d) (isFB d) (isI d)
      refine ⟨hok, n, rfl, hib, hcount, hib, ib_noN hib, n, rfl, hib, hcount, hib, ib_noN hib, due, due, ?_⟩
      rw [if_neg (by simp)]
      refine ⟨hok, ?_⟩
      rw [if_neg (by simp)]
      exact ⟨_, _, _, _, rfl⟩
    · obtain ⟨a, b, c, e, rfl⟩ := h
      refine hK8 _ ?_
      clear hK8
      nested_key
      exact q

abbrev s__law_each_behind : Stmt := topS 33
theorem sc__law_each_behind : FnScope ["rows", "some", "found", "row", "late"] ["rows", "some"] (defScope s__law_each_behind) := ⟨rfl, rfl, rfl, by decide +kernel, rfl, by decide +kernel, by decide +kernel⟩
theorem ok__law_each_behind {f : Addr} {fd : FuncData} (T : Txt mg) (F : Fun K "_law_each_behind" "_law_each_behind" s__law_each_behind f fd) (gm : mg "_law_each_behind" = some (.ref f)) (nd : base.NoDigits)  : Df P w K mg base "_law_each_behind" 1 (spD ⟨K, w⟩ 2 F__law_each_behind) := by
  refine fn_D F gm sc__law_each_behind rfl (fun _ _ _ _ _ _ us hl => match us, hl with | [_, _], _ => rfl) fun cdv A outer s H E hr => ?_
  refine ⟨_, (s_cons (s_setO 2 sc__law_each_behind.nd (e_lst a_nil))
      (s_cons (s_for PassesOwn.never rfl (ki_seq ⟨K, w⟩ (e_v 0)) (g_name 3 sc__law_each_behind.nd) (s_one (s_ext 2 (DF.de (e_lc [("late", 4)] rfl sc__law_each_behind.nd (ki_seq ⟨K, w⟩ (e_v 1)) (blkOk_by (own := [("late", 4)]) rfl) (fun _ _ _ _ _ => (g_name 4 sc__law_each_behind.nd)) (fun _ _ _ _ _ => (e_op (kAdd ⟨K, w⟩) d_addU (e_v 3) (e_tup (a_cons (e_v 4) a_nil)))))))))
      (s_one (s_retO 2)))), fun ds R hl hF => ?_⟩
  match ds, hl, hF with
  | [x, y], _, h =>
    obtain ⟨rs, ss, rfl, rfl, hr, hs, hl2, q⟩ := h
    nested_key
    refine ⟨fun k ρ => ∃ u v, ρ = [.val (.lst (rs.map kD)), .val (.lst (ss.map D.int)), .own (.lst ((behind (rs.take k) ss).map kD)), u, v], ⟨_, _, rfl⟩, fun k ρ d hd h => ?_, fun ρ h => ?_⟩
    · obtain ⟨u, v, rfl⟩ := h
      obtain ⟨r, hr', rfl⟩ := of_map hd
      have hrl := hl2 r (List.mem_of_getElem? hr')
      have z100 : ∀ {n : Nat}, n ≤ 100000 → n ≤ sizeLine := fun h => Nat.le_trans h (by decide)
      nested_key
      refine ⟨fun k acc => acc = ((ss.take k).map fun s => r ++ [s]).map kD, rfl, fun k acc d hd h => ?_, fun acc h => ?_⟩
      · subst h
        obtain ⟨s, hs', rfl⟩ := of_map hd
        unfold kD
        nested_key
        refine ⟨z100 (by simp; omega), ?_⟩
        rw [take_map (f := fun s => r ++ [s]) hs']
        simp only [List.map_append, List.map_cons, List.map_nil]
      · subst h
        rw [show (ss.map D.int).length = ss.length from List.length_map .., List.take_length]
        refine ⟨z100 ?_, _, _, by rw [behind_step hr', List.map_append]⟩
        rw [List.length_map, List.length_map, behind_len, List.length_map]
        have h1 : (rs.take k).length ≤ 1000 := by rw [List.length_take]; omega
        have := Nat.mul_le_mul h1 hs
        omega
    · obtain ⟨u, v, rfl⟩ := h
      rw [List.length_map, List.take_length]
      exact q

abbrev s__law_open_cells : Stmt := topS 17
theorem sc__law_open_cells : FnScope ["script", "stirred", "cell", "cells"] ["script"] (defScope s__law_open_cells) := ⟨rfl, rfl, rfl, by decide +kernel, rfl, by decide +kernel, by decide +kernel⟩
theorem ok__law_open_cells {f : Addr} {fd : FuncData} (T : Txt mg) (F : Fun K "_law_open_cells" "_law_open_cells" s__law_open_cells f fd) (gm : mg "_law_open_cells" = some (.ref f)) : Op P w K mg base "_law_open_cells" 1 := by
  refine ⟨f, fd, ["script"], gm, F.kp, F.binds (ps := ["script"]) (fun _ _ _ _ _ _ us hl => match us, hl with | [_], _ => rfl), fun_G F sc__law_open_cells (fun vs H Q E h => ?_) (fun cdv A outer s H vs Q E hr h => ?_)⟩
  · obtain ⟨a, ns, rfl, _⟩ := h; rfl
  · obtain ⟨a, ns, rfl, hS, hz, q⟩ := h
    refine ⟨_, pss_cons (ps_set (i := 1) sc__law_open_cells.nd rfl (.inl rfl) pe_int)
      (pss_cons (ps_for PassesOwn.never rfl (pi_list (pv 0)) (pg_name (i := 2) sc__law_open_cells.nd rfl (.inl rfl))
        (pss_one (ps_set (i := 1) sc__law_open_cells.nd rfl (.inl rfl) (pe_op op_modN (pe_callTy call_int1 (by rfl) T.int (by decide +kernel) (pa_cons (pe_op op_add (pe_op op_add (pe_op op_mulC (pv 1) pe_int) (pe_op op_mulC (pv 2) pe_int)) pe_int) pa_nil)) pe_int))))
      (pss_cons (ps_setLc (i := 3) (own := [("cell", 2)]) rfl sc__law_open_cells.nd rfl rfl (sw_true rfl rfl rfl (by decide +kernel)) (pi_list (pv 0)) (blkOk_by (own := [("cell", 2)]) rfl) (fun _ _ _ _ _ => pg_name (i := 2) sc__law_open_cells.nd rfl (.inl rfl)) (fun _ _ _ _ _ => pts_nil)
          (fun _ _ _ _ _ => pe_callB call_abs (by rfl) T.abs (by decide +kernel) (pa_cons (pv 2) pa_nil)))
      (pss_one (ps_ret (pe_disp (pps_cons pe_str (pe_revL (pv 3)) (pps_cons pe_str pe_int (pps_cons pe_str (pv 1) (pps_cons pe_str pe_int pps_nil)))) rfl rfl (by simp) (by decide)))))), ?_⟩
    refine ⟨.ref a, rfl, a, rfl, ⟨_, hS⟩, ?_⟩
    refine for_it walk_list (fun i σ H' => H' = H ∧ ∃ m y z, σ = [some (.ref a), some (.int m), y, z] ∧ 0 ≤ m ∧ m < 2 ^ 40) ⟨rfl, 11, none, none, rfl, by decide, by decide⟩ (fun i σ H' _ p => by rw [p.1]; exact hS) (fun i x σ H' H2 hi p y => ?_) fun σ H0 p => ?_
    · obtain ⟨rfl, m, y1, z1, rfl, h1, h2⟩ := p
      obtain ⟨rfl, e⟩ := y
      rw [List.getElem?_map] at e
      obtain ⟨n, rfl⟩ : ∃ n, x = V.int n := by
        cases en : ns[i]? with
        | none => rw [en] at e; cases e
        | some n => rw [en] at e; cases e; exact ⟨n, rfl⟩
      refine ⟨.int m, rfl, m, 69069, rfl, rfl, .inl (.inr ⟨by decide, by decide⟩), .int n, rfl, n, 31, rfl, rfl, .inl (.inr ⟨by decide, by decide⟩), _, _, rfl, rfl, _, _, rfl, rfl, .inl ⟨_, rfl, _, _, rfl, rfl, by show (2147483629 : Int) ≠ 0; decide, ?_⟩⟩
      refine ⟨rfl, _, _, _, rfl, ?_, ?_⟩
      · rw [Int.fmod_eq_emod_of_nonneg _ (by decide)]
        exact Int.emod_nonneg _ (by decide)
      · rw [Int.fmod_eq_emod_of_nonneg _ (by decide)]
        exact Int.lt_trans (Int.emod_lt_of_pos _ (by decide)) (by decide)
    · obtain ⟨rfl, m, y1, z1, rfl, h1, h2⟩ := p
      refine ⟨.ref a, rfl, a, rfl, ⟨_, hS⟩, fun D hD => ?_⟩
      have hDa : ∀ {H' : Hp}, (∀ p o, p ≠ D → H0 p = some o → H' p = some o) → SqL K H' a (ns.map V.int) := fun {H'} g => by
        have hne : ∀ o, H0 a = some o → a ≠ D := fun o e z => by rw [z, hD] at e; cases e
        rcases hS with h | h
        · exact .inl (h.imp (fun e => g a _ (hne _ e) e) fun ⟨o, e⟩ => ⟨o, g a _ (hne _ e) e⟩)
        · exact .inr h
      refine lc_it walk_list (fun i H' => (∀ p o, p ≠ D → H0 p = some o → H' p = some o) ∧ H' D = some (.lst (((ns.take i).map fun n => if n < 0 then -n else n).map V.int))) ⟨fun p o hp e => by rw [upd_ne hp]; exact e, by rw [upd_same]; rfl⟩ (fun i H' _ p => hDa p.1) (fun i x H' H2 hi p y => ?_) fun H' p => ?_
      · obtain ⟨rfl, e⟩ := y
        obtain ⟨g, eD⟩ := p
        rw [List.getElem?_map] at e
        cases en : ns[i]? with
        | none => rw [en] at e; cases e
        | some n =>
          rw [en] at e; cases e
          refine ⟨rfl, ?_⟩
          refine ⟨_, rfl, n, rfl, _, eD, ?_, fun p o hp e => by rw [upd_ne hp]; exact g p o hp e, ?_⟩
          · rw [List.length_map, List.length_map, List.length_take]
            exact Nat.lt_of_le_of_lt (m := 63) (by omega) (by decide)
          · rw [upd_same, take_map en, List.map_append]; rfl
      · obtain ⟨g, eD⟩ := p
        have hz2 : (ns.map V.int).length = ns.length := List.length_map ..
        rw [hz2, List.take_length] at eD
        intro p hp
        have hDp : D ≠ p := fun z => by rw [← z, eD] at hp; cases hp
        refine ⟨.ref D, rfl, D, _, rfl, .inl (.inl ((upd_ne hDp).trans eD)), fun c hc => ?_⟩
        have hcp : c ≠ p := fun z => by rw [z, upd_same] at hc; cases hc
        have hc' : H' c = none := by rw [← hc, upd_ne hcp]
        have hcD : c ≠ D := fun z => by rw [z, eD] at hc'; cases hc'
        refine ⟨.int m, rfl, ?_⟩
        refine ⟨(upd_ne (Ne.symm hcp)).trans upd_same, [(Sum.inr "cells", .ref c), (Sum.inr "left", .int 1), (Sum.inr "mixed", .int m), (Sum.inr "turn", .int 0)], rfl, by simp, ?_⟩
        have back : ∀ z, H' z = none → z ≠ D → H0 z = none := fun z hz hne => by
          cases e : H0 z with
          | none => rfl
          | some o => rw [g z o hne e] at hz; cases hz
        refine q p c _ (fun x o e => ?_) (back p hp (Ne.symm hDp)) (back c hc' hcD) ⟨(ns.map fun n => if n < 0 then -n else n).reverse, 1, m, 0, upd_same, ?_, by simpa using hz⟩
        · have e' : H' x = some o := by
            by_cases hx : x = D
            · rw [hx, hD] at e; cases e
            · exact g x o hx e
          have h1 : x ≠ p := fun z => by rw [z, hp] at e'; cases e'
          have h2 : x ≠ c := fun z => by rw [z, hc'] at e'; cases e'
          rw [upd_ne h1, upd_ne h2, upd_ne h1]
          exact e'
        · rw [upd_ne hcp, upd_same, List.map_reverse]
abbrev s_law : Stmt := topS 34
theorem sc_law : FnScope ["script", "source", "odd", "lap"] ["script"] (defScope s_law) := ⟨rfl, rfl, rfl, by decide +kernel, rfl, by decide +kernel, by decide +kernel⟩
theorem ok_law {f : Addr} {fd : FuncData} (T : Txt mg) (F : Fun K "law" "law" s_law f fd) (nd : base.NoDigits) (O : Op P w K mg base "_law_open_cells" 1)
    (G__law_falling_right : Df P w K mg base "_law_falling_right" 4 (spS ⟨K, w⟩ 0 F__law_falling_right)) (G__law_row_right : Df P w K mg base "_law_row_right" 4 (spS ⟨K, w⟩ 0 F__law_row_right)) (G__law_kinds_right : Df P w K mg base "_law_kinds_right" 7 (spS ⟨K, w⟩ 1 F__law_kinds_right)) :
    FnG P w K mg base 8 f fd ["script"] (spLaw K) := by
  refine fn_law F sc_law (by decide) fun cdv A outer s H E hr => ?_
  refine ⟨_, _, _, rfl, ps_open (O.up (by decide)) hr sc_law.nd (by rfl) rfl rfl rfl rfl, (s_cons (s_set 2 sc_law.nd (DF.de (e_lst (a_cons e_non (a_cons e_bl (a_cons e_bl (a_cons e_int (a_cons e_int (a_cons (e_un un_neg d_neg e_int) (a_cons e_int (a_cons e_str (a_cons (e_tup a_nil) (a_cons (e_tup (a_cons e_int a_nil)) (a_cons (e_tup (a_cons e_int (a_cons e_int a_nil))) (a_cons (e_tup (a_cons e_int (a_cons e_int a_nil))) (a_cons (e_tup (a_cons e_int (a_cons (e_un un_neg d_neg e_int) a_nil))) (a_cons (e_tup (a_cons e_int (a_cons e_int a_nil))) (a_cons (DF.de (e_lst a_nil)) (a_cons (DF.de e_dict0K) (a_cons (DF.de (e_lst (a_cons e_int a_nil))) (a_cons (e_tup (a_cons (e_tup (a_cons e_int a_nil)) (a_cons e_int a_nil))) a_nil)))))))))))))))))))))
      (s_cons (s_set 2 sc_law.nd (e_op (kAdd ⟨K, w⟩) d_addU (e_v 2) (DF.de (e_lst (a_cons (e_tup (a_cons (e_tup (a_cons (e_tup (a_cons e_int a_nil)) (a_cons e_int a_nil))) a_nil)) (a_cons (e_tup (a_cons (e_tup (a_cons (e_tup (a_cons e_int a_nil)) (a_cons e_int a_nil))) a_nil)) (a_cons (e_tup (a_cons (e_tup (a_cons (e_tup (a_cons e_bl a_nil)) (a_cons e_int a_nil))) a_nil)) (a_cons (e_tup (a_cons (e_tup (a_cons (e_tup (a_cons e_int (a_cons e_int a_nil))) (a_cons e_int a_nil))) a_nil)) (a_cons (e_tup (a_cons (e_tup (a_cons (e_tup (a_cons (e_un un_neg d_neg e_int) a_nil)) (a_cons e_int a_nil))) a_nil)) (a_cons (e_op op_pow d_pow e_int e_int) (a_cons (e_tup (a_cons (e_op op_pow d_pow e_int e_int) (a_cons e_int a_nil))) a_nil)))))))))))
      (s_cons (s_for PassesOwn.never rfl (i_range1 (b := true) T.range (a_cons e_int a_nil)) (g_name 3 sc_law.nd) (s_one (s_if (DW.t (w_or (t_not (t_val (b := true) (k_callS 1 (G__law_falling_right.up (by decide)) hr a_nil))) (w_or (t_not (t_val (b := true) (k_callS 1 (G__law_row_right.up (by decide)) hr a_nil))) (w_or1 (t_not (t_val (b := true) (k_callS 1 (G__law_kinds_right.up (by decide)) hr (a_cons (e_v 2) a_nil)))))))) (s_one (s_ret e_bl)) s_nil)))
      (s_one (s_ret e_bl))))), ?_⟩
  show rSeq _ _ _ [.emp, .src, .emp, .emp]
  refine seq_hide fun K1 hK1 => ?_
  nested_key
  refine hK1 _ ?_
  clear hK1
  refine seq_hide fun K2 hK2 => ?_
  nested_key
  refine ⟨by unfold CPow; decide, by unfold CPow; decide, by decide, ?_⟩
  have key : ∀ os : List D, (os ≠ [] ∧ os.length ≤ 30 ∧ ∀ x ∈ os, Het 1000 10 x) → K2 [.emp, .src, .val (.lst os), .emp] := fun os ho => by
    refine hK2 _ ?_
    clear hK2
    refine seq_hide fun K3 hK3 => ?_
    nested_key
    refine ⟨by decide, fun k ρ => ∃ y, ρ = [.emp, .src, .val (.lst os), y], ⟨_, rfl⟩, fun k ρ d hd h => ?_, fun ρ h => ?_⟩
    · obtain ⟨y, rfl⟩ := h
      nested_key
      refine ⟨trivial, ?_⟩
      show (if (!true) = true then D.bl false = D.bl true else _)
      rw [if_neg (by simp)]
      refine ⟨trivial, ?_⟩
      show (if (!true) = true then D.bl false = D.bl true else _)
      rw [if_neg (by simp)]
      exact ⟨trivial, os, rfl, ho, ⟨_, rfl⟩⟩
    · obtain ⟨y, rfl⟩ := h
      refine hK3 _ ?_
      nested_key
  exact key (odd1 ++ odd2) odd_ok
end
section
open PyProof.Rows
theorem all_mk {l : PySem.W.OpenLaw} {w : World} {K : PySem.W.Frag} {h : Heap} {mg : Str → Option Value} {fa f0 f1 f2 f3 f4 f5 f6 f7 f8 f9 f10 f11 f12 f13 f14 f15 f16 f17 f18 f19 f20 f21 f22 f23 f24 f25 f26 f27 f28 f29 f30 : Addr} (X : K.In h) (G : h.Ns mainGlobals mg) (hfa : mg "law" = some (.ref fa))
    {od0 an0 od1 an1 od2 an2 od3 an3 od4 an4 od5 an5 od6 an6 od7 an7 od8 an8 od9 an9 od10 an10 od11 an11 od12 an12 od13 an13 od14 an14 od15 an15 od16 an16 od17 an17 od18 an18 od19 an19 od20 an20 od21 an21 od22 an22 od23 an23 od24 an24 od25 an25 od26 an26 od27 an27 od28 an28 od29 an29 od30 an30 : Option Addr} {sl0 sl1 sl2 sl3 sl4 sl5 sl6 sl7 sl8 sl9 sl10 sl11 sl12 sl13 sl14 sl15 sl16 sl17 sl18 sl19 sl20 sl21 sl22 sl23 sl24 sl25 sl26 sl27 sl28 sl29 sl30 : Array (Option Value)} {oc0 kV0 dc0 pm0 cd0 ct0 oc1 kV1 dc1 pm1 cd1 ct1 oc2 kV2 dc2 pm2 cd2 ct2 oc3 kV3 dc3 pm3 cd3 ct3 oc4 kV4 dc4 pm4 cd4 ct4 oc5 kV5 dc5 pm5 cd5 ct5 oc6 kV6 dc6 pm6 cd6 ct6 oc7 kV7 dc7 pm7 cd7 ct7 oc8 kV8 dc8 pm8 cd8 ct8 oc9 kV9 dc9 pm9 cd9 ct9 oc10 kV10 dc10 pm10 cd10 ct10 oc11 kV11 dc11 pm11 cd11 ct11 oc12 kV12 dc12 pm12 cd12 ct12 oc13 kV13 dc13 pm13 cd13 ct13 oc14 kV14 dc14 pm14 cd14 ct14 oc15 kV15 dc15 pm15 cd15 ct15 oc16 kV16 dc16 pm16 cd16 ct16 oc17 kV17 dc17 pm17 cd17 ct17 oc18 kV18 dc18 pm18 cd18 ct18 oc19 kV19 dc19 pm19 cd19 ct19 oc20 kV20 dc20 pm20 cd20 ct20 oc21 kV21 dc21 pm21 cd21 ct21 oc22 kV22 dc22 pm22 cd22 ct22 oc23 kV23 dc23 pm23 cd23 ct23 oc24 kV24 dc24 pm24 cd24 ct24 oc25 kV25 dc25 pm25 cd25 ct25 oc26 kV26 dc26 pm26 cd26 ct26 oc27 kV27 dc27 pm27 cd27 ct27 oc28 kV28 dc28 pm28 cd28 ct28 oc29 kV29 dc29 pm29 cd29 ct29 oc30 kV30 dc30 pm30 cd30 ct30 : Value}
    (a0 : PySem.W.nsIn K mainGlobals "is_integer" = some (some (.ref f0))) (l0 : K.lookup f0 = some ⟨oc0, od0, .func (PySem.W.fnOf "is_integer" "is_integer" (defArgs s_is_integer) (defBody s_is_integer) (defScope s_is_integer) .none kV0 dc0 pm0 an0 cd0 ct0), sl0⟩) (c0 : PySem.W.codeIn K cd0 "is_integer" = true) (k0 : PySem.W.keepIn K (.ref f0) = true)
    (a1 : PySem.W.nsIn K mainGlobals "number_power" = some (some (.ref f1))) (l1 : K.lookup f1 = some ⟨oc1, od1, .func (PySem.W.fnOf "number_power" "number_power" (defArgs s_number_power) (defBody s_number_power) (defScope s_number_power) .none kV1 dc1 pm1 an1 cd1 ct1), sl1⟩) (c1 : PySem.W.codeIn K cd1 "number_power" = true) (k1 : PySem.W.keepIn K (.ref f1) = true)
    (a2 : PySem.W.nsIn K mainGlobals "fraction_of" = some (some (.ref f2))) (l2 : K.lookup f2 = some ⟨oc2, od2, .func (PySem.W.fnOf "fraction_of" "fraction_of" (defArgs s_fraction_of) (defBody s_fraction_of) (defScope s_fraction_of) .none kV2 dc2 pm2 an2 cd2 ct2), sl2⟩) (c2 : PySem.W.codeIn K cd2 "fraction_of" = true) (k2 : PySem.W.keepIn K (.ref f2) = true)
    (a3 : PySem.W.nsIn K mainGlobals "is_fraction" = some (some (.ref f3))) (l3 : K.lookup f3 = some ⟨oc3, od3, .func (PySem.W.fnOf "is_fraction" "is_fraction" (defArgs s_is_fraction) (defBody s_is_fraction) (defScope s_is_fraction) .none kV3 dc3 pm3 an3 cd3 ct3), sl3⟩) (c3 : PySem.W.codeIn K cd3 "is_fraction" = true) (k3 : PySem.W.keepIn K (.ref f3) = true)
    (a4 : PySem.W.nsIn K mainGlobals "are_powers" = some (some (.ref f4))) (l4 : K.lookup f4 = some ⟨oc4, od4, .func (PySem.W.fnOf "are_powers" "are_powers" (defArgs s_are_powers) (defBody s_are_powers) (defScope s_are_powers) .none kV4 dc4 pm4 an4 cd4 ct4), sl4⟩) (c4 : PySem.W.codeIn K cd4 "are_powers" = true) (k4 : PySem.W.keepIn K (.ref f4) = true)
    (a5 : PySem.W.nsIn K mainGlobals "is_member" = some (some (.ref f5))) (l5 : K.lookup f5 = some ⟨oc5, od5, .func (PySem.W.fnOf "is_member" "is_member" (defArgs s_is_member) (defBody s_is_member) (defScope s_is_member) .none kV5 dc5 pm5 an5 cd5 ct5), sl5⟩) (c5 : PySem.W.codeIn K cd5 "is_member" = true) (k5 : PySem.W.keepIn K (.ref f5) = true)
    (a6 : PySem.W.nsIn K mainGlobals "is_mean" = some (some (.ref f6))) (l6 : K.lookup f6 = some ⟨oc6, od6, .func (PySem.W.fnOf "is_mean" "is_mean" (defArgs s_is_mean) (defBody s_is_mean) (defScope s_is_mean) .none kV6 dc6 pm6 an6 cd6 ct6), sl6⟩) (c6 : PySem.W.codeIn K cd6 "is_mean" = true) (k6 : PySem.W.keepIn K (.ref f6) = true)
    (a7 : PySem.W.nsIn K mainGlobals "mean_of_rows" = some (some (.ref f7))) (l7 : K.lookup f7 = some ⟨oc7, od7, .func (PySem.W.fnOf "mean_of_rows" "mean_of_rows" (defArgs s_mean_of_rows) (defBody s_mean_of_rows) (defScope s_mean_of_rows) .none kV7 dc7 pm7 an7 cd7 ct7), sl7⟩) (c7 : PySem.W.codeIn K cd7 "mean_of_rows" = true) (k7 : PySem.W.keepIn K (.ref f7) = true)
    (a8 : PySem.W.nsIn K mainGlobals "falling" = some (some (.ref f8))) (l8 : K.lookup f8 = some ⟨oc8, od8, .func (PySem.W.fnOf "falling" "falling" (defArgs s_falling) (defBody s_falling) (defScope s_falling) .none kV8 dc8 pm8 an8 cd8 ct8), sl8⟩) (c8 : PySem.W.codeIn K cd8 "falling" = true) (k8 : PySem.W.keepIn K (.ref f8) = true)
    (a9 : PySem.W.nsIn K mainGlobals "greatest_powers" = some (some (.ref f9))) (l9 : K.lookup f9 = some ⟨oc9, od9, .func (PySem.W.fnOf "greatest_powers" "greatest_powers" (defArgs s_greatest_powers) (defBody s_greatest_powers) (defScope s_greatest_powers) .none kV9 dc9 pm9 an9 cd9 ct9), sl9⟩) (c9 : PySem.W.codeIn K cd9 "greatest_powers" = true) (k9 : PySem.W.keepIn K (.ref f9) = true)
    (a10 : PySem.W.nsIn K mainGlobals "size_product" = some (some (.ref f10))) (l10 : K.lookup f10 = some ⟨oc10, od10, .func (PySem.W.fnOf "size_product" "size_product" (defArgs s_size_product) (defBody s_size_product) (defScope s_size_product) .none kV10 dc10 pm10 an10 cd10 ct10), sl10⟩) (c10 : PySem.W.codeIn K cd10 "size_product" = true) (k10 : PySem.W.keepIn K (.ref f10) = true)
    (a11 : PySem.W.nsIn K mainGlobals "mean_at" = some (some (.ref f11))) (l11 : K.lookup f11 = some ⟨oc11, od11, .func (PySem.W.fnOf "mean_at" "mean_at" (defArgs s_mean_at) (defBody s_mean_at) (defScope s_mean_at) .none kV11 dc11 pm11 an11 cd11 ct11), sl11⟩) (c11 : PySem.W.codeIn K cd11 "mean_at" = true) (k11 : PySem.W.keepIn K (.ref f11) = true)
    (a12 : PySem.W.nsIn K mainGlobals "mean_row" = some (some (.ref f12))) (l12 : K.lookup f12 = some ⟨oc12, od12, .func (PySem.W.fnOf "mean_row" "mean_row" (defArgs s_mean_row) (defBody s_mean_row) (defScope s_mean_row) .none kV12 dc12 pm12 an12 cd12 ct12), sl12⟩) (c12 : PySem.W.codeIn K cd12 "mean_row" = true) (k12 : PySem.W.keepIn K (.ref f12) = true)
    (a13 : PySem.W.nsIn K mainGlobals "_law_open_cells" = some (some (.ref f13))) (l13 : K.lookup f13 = some ⟨oc13, od13, .func (PySem.W.fnOf "_law_open_cells" "_law_open_cells" (defArgs s__law_open_cells) (defBody s__law_open_cells) (defScope s__law_open_cells) .none kV13 dc13 pm13 an13 cd13 ct13), sl13⟩) (c13 : PySem.W.codeIn K cd13 "_law_open_cells" = true) (k13 : PySem.W.keepIn K (.ref f13) = true)
    (a14 : PySem.W.nsIn K mainGlobals "_law_pick" = some (some (.ref f14))) (l14 : K.lookup f14 = some ⟨oc14, od14, .func (PySem.W.fnOf "_law_pick" "_law_pick" (defArgs s__law_pick) (defBody s__law_pick) (defScope s__law_pick) .none kV14 dc14 pm14 an14 cd14 ct14), sl14⟩) (c14 : PySem.W.codeIn K cd14 "_law_pick" = true) (k14 : PySem.W.keepIn K (.ref f14) = true)
    (a15 : PySem.W.nsIn K mainGlobals "_law_of" = some (some (.ref f15))) (l15 : K.lookup f15 = some ⟨oc15, od15, .func (PySem.W.fnOf "_law_of" "_law_of" (defArgs s__law_of) (defBody s__law_of) (defScope s__law_of) .none kV15 dc15 pm15 an15 cd15 ct15), sl15⟩) (c15 : PySem.W.codeIn K cd15 "_law_of" = true) (k15 : PySem.W.keepIn K (.ref f15) = true)
    (a16 : PySem.W.nsIn K mainGlobals "_law_fraction" = some (some (.ref f16))) (l16 : K.lookup f16 = some ⟨oc16, od16, .func (PySem.W.fnOf "_law_fraction" "_law_fraction" (defArgs s__law_fraction) (defBody s__law_fraction) (defScope s__law_fraction) .none kV16 dc16 pm16 an16 cd16 ct16), sl16⟩) (c16 : PySem.W.codeIn K cd16 "_law_fraction" = true) (k16 : PySem.W.keepIn K (.ref f16) = true)
    (a17 : PySem.W.nsIn K mainGlobals "_law_by" = some (some (.ref f17))) (l17 : K.lookup f17 = some ⟨oc17, od17, .func (PySem.W.fnOf "_law_by" "_law_by" (defArgs s__law_by) (defBody s__law_by) (defScope s__law_by) .none kV17 dc17 pm17 an17 cd17 ct17), sl17⟩) (c17 : PySem.W.codeIn K cd17 "_law_by" = true) (k17 : PySem.W.keepIn K (.ref f17) = true)
    (a18 : PySem.W.nsIn K mainGlobals "_law_drawn_mean" = some (some (.ref f18))) (l18 : K.lookup f18 = some ⟨oc18, od18, .func (PySem.W.fnOf "_law_drawn_mean" "_law_drawn_mean" (defArgs s__law_drawn_mean) (defBody s__law_drawn_mean) (defScope s__law_drawn_mean) .none kV18 dc18 pm18 an18 cd18 ct18), sl18⟩) (c18 : PySem.W.codeIn K cd18 "_law_drawn_mean" = true) (k18 : PySem.W.keepIn K (.ref f18) = true)
    (a19 : PySem.W.nsIn K mainGlobals "_law_power" = some (some (.ref f19))) (l19 : K.lookup f19 = some ⟨oc19, od19, .func (PySem.W.fnOf "_law_power" "_law_power" (defArgs s__law_power) (defBody s__law_power) (defScope s__law_power) .none kV19 dc19 pm19 an19 cd19 ct19), sl19⟩) (c19 : PySem.W.codeIn K cd19 "_law_power" = true) (k19 : PySem.W.keepIn K (.ref f19) = true)
    (a20 : PySem.W.nsIn K mainGlobals "_law_mean_at" = some (some (.ref f20))) (l20 : K.lookup f20 = some ⟨oc20, od20, .func (PySem.W.fnOf "_law_mean_at" "_law_mean_at" (defArgs s__law_mean_at) (defBody s__law_mean_at) (defScope s__law_mean_at) .none kV20 dc20 pm20 an20 cd20 ct20), sl20⟩) (c20 : PySem.W.codeIn K cd20 "_law_mean_at" = true) (k20 : PySem.W.keepIn K (.ref f20) = true)
    (a21 : PySem.W.nsIn K mainGlobals "_law_bent" = some (some (.ref f21))) (l21 : K.lookup f21 = some ⟨oc21, od21, .func (PySem.W.fnOf "_law_bent" "_law_bent" (defArgs s__law_bent) (defBody s__law_bent) (defScope s__law_bent) .none kV21 dc21 pm21 an21 cd21 ct21), sl21⟩) (c21 : PySem.W.codeIn K cd21 "_law_bent" = true) (k21 : PySem.W.keepIn K (.ref f21) = true)
    (a22 : PySem.W.nsIn K mainGlobals "_law_is_int" = some (some (.ref f22))) (l22 : K.lookup f22 = some ⟨oc22, od22, .func (PySem.W.fnOf "_law_is_int" "_law_is_int" (defArgs s__law_is_int) (defBody s__law_is_int) (defScope s__law_is_int) .none kV22 dc22 pm22 an22 cd22 ct22), sl22⟩) (c22 : PySem.W.codeIn K cd22 "_law_is_int" = true) (k22 : PySem.W.keepIn K (.ref f22) = true)
    (a23 : PySem.W.nsIn K mainGlobals "_law_is_mean" = some (some (.ref f23))) (l23 : K.lookup f23 = some ⟨oc23, od23, .func (PySem.W.fnOf "_law_is_mean" "_law_is_mean" (defArgs s__law_is_mean) (defBody s__law_is_mean) (defScope s__law_is_mean) .none kV23 dc23 pm23 an23 cd23 ct23), sl23⟩) (c23 : PySem.W.codeIn K cd23 "_law_is_mean" = true) (k23 : PySem.W.keepIn K (.ref f23) = true)
    (a24 : PySem.W.nsIn K mainGlobals "_law_is_fraction" = some (some (.ref f24))) (l24 : K.lookup f24 = some ⟨oc24, od24, .func (PySem.W.fnOf "_law_is_fraction" "_law_is_fraction" (defArgs s__law_is_fraction) (defBody s__law_is_fraction) (defScope s__law_is_fraction) .none kV24 dc24 pm24 an24 cd24 ct24), sl24⟩) (c24 : PySem.W.codeIn K cd24 "_law_is_fraction" = true) (k24 : PySem.W.keepIn K (.ref f24) = true)
    (a25 : PySem.W.nsIn K mainGlobals "_law_rows_unlike" = some (some (.ref f25))) (l25 : K.lookup f25 = some ⟨oc25, od25, .func (PySem.W.fnOf "_law_rows_unlike" "_law_rows_unlike" (defArgs s__law_rows_unlike) (defBody s__law_rows_unlike) (defScope s__law_rows_unlike) .none kV25 dc25 pm25 an25 cd25 ct25), sl25⟩) (c25 : PySem.W.codeIn K cd25 "_law_rows_unlike" = true) (k25 : PySem.W.keepIn K (.ref f25) = true)
    (a26 : PySem.W.nsIn K mainGlobals "_law_falling_right" = some (some (.ref f26))) (l26 : K.lookup f26 = some ⟨oc26, od26, .func (PySem.W.fnOf "_law_falling_right" "_law_falling_right" (defArgs s__law_falling_right) (defBody s__law_falling_right) (defScope s__law_falling_right) .none kV26 dc26 pm26 an26 cd26 ct26), sl26⟩) (c26 : PySem.W.codeIn K cd26 "_law_falling_right" = true) (k26 : PySem.W.keepIn K (.ref f26) = true)
    (a27 : PySem.W.nsIn K mainGlobals "_law_row_right" = some (some (.ref f27))) (l27 : K.lookup f27 = some ⟨oc27, od27, .func (PySem.W.fnOf "_law_row_right" "_law_row_right" (defArgs s__law_row_right) (defBody s__law_row_right) (defScope s__law_row_right) .none kV27 dc27 pm27 an27 cd27 ct27), sl27⟩) (c27 : PySem.W.codeIn K cd27 "_law_row_right" = true) (k27 : PySem.W.keepIn K (.ref f27) = true)
    (a28 : PySem.W.nsIn K mainGlobals "_law_kinds_right" = some (some (.ref f28))) (l28 : K.lookup f28 = some ⟨oc28, od28, .func (PySem.W.fnOf "_law_kinds_right" "_law_kinds_right" (defArgs s__law_kinds_right) (defBody s__law_kinds_right) (defScope s__law_kinds_right) .none kV28 dc28 pm28 an28 cd28 ct28), sl28⟩) (c28 : PySem.W.codeIn K cd28 "_law_kinds_right" = true) (k28 : PySem.W.keepIn K (.ref f28) = true)
    (a29 : PySem.W.nsIn K mainGlobals "_law_each_behind" = some (some (.ref f29))) (l29 : K.lookup f29 = some ⟨oc29, od29, .func (PySem.W.fnOf "_law_each_behind" "_law_each_behind" (defArgs s__law_each_behind) (defBody s__law_each_behind) (defScope s__law_each_behind) .none kV29 dc29 pm29 an29 cd29 ct29), sl29⟩) (c29 : PySem.W.codeIn K cd29 "_law_each_behind" = true) (k29 : PySem.W.keepIn K (.ref f29) = true)
    (a30 : PySem.W.nsIn K mainGlobals "law" = some (some (.ref f30))) (l30 : K.lookup f30 = some ⟨oc30, od30, .func (PySem.W.fnOf "law" "law" (defArgs s_law) (defBody s_law) (defScope s_law) .none kV30 dc30 pm30 an30 cd30 ct30), sl30⟩) (c30 : PySem.W.codeIn K cd30 "law" = true) (k30 : PySem.W.keepIn K (.ref f30) = true)
    (z0 : PySem.W.nsIn K mainGlobals "range" = some none)
    (z1 : PySem.W.nsIn K mainGlobals "abs" = some none)
    (z2 : PySem.W.nsIn K mainGlobals "int" = some none)
    (z3 : PySem.W.nsIn K mainGlobals "len" = some none)
    (z4 : PySem.W.nsIn K mainGlobals "tuple" = some none)
    (z5 : PySem.W.nsIn K mainGlobals "repr" = some none)
    (z6 : PySem.W.nsIn K mainGlobals "sorted" = some none)
    (z7 : PySem.W.nsIn K mainGlobals "max" = some none)
    (z8 : PySem.W.nsIn K mainGlobals "list" = some none)
    (z9 : PySem.W.nsIn K mainGlobals "zip" = some none)
    (z10 : PySem.W.nsIn K mainGlobals "enumerate" = some none)
    (z11 : PySem.W.nsIn K mainGlobals "isinstance" = some none)
    (z12 : PySem.W.nsIn K mainGlobals "bool" = some none)
    (z13 : PySem.W.nsIn K mainGlobals "all" = some none)
    (z14 : PySem.W.nsIn K mainGlobals "dict" = some none)
    (z15 : PySem.W.nsIn K mainGlobals "gcd" = some (some (.builtin "math.gcd")))
    : ∃ fd : FuncData, (∀ (s : Shared) (v : Value), BindsTo s fd ⟨[v], []⟩ [("script", v)]) ∧ ∀ base : Heap, K.In base → base.Ns mainGlobals mg → base.NoDigits → FnG l.prog w K mg base 8 fa fd ["script"] (spLaw K) := by
  have e := hfa.symm.trans (PySem.W.mg_of X G a30)
  cases e
  have T : Txt mg := ⟨PySem.W.mg_none_of X G z0, PySem.W.mg_none_of X G z1, PySem.W.mg_none_of X G z2, PySem.W.mg_none_of X G z3, PySem.W.mg_none_of X G z4, PySem.W.mg_none_of X G z5, PySem.W.mg_none_of X G z6, PySem.W.mg_none_of X G z7, PySem.W.mg_none_of X G z8, PySem.W.mg_none_of X G z9, PySem.W.mg_none_of X G z10, PySem.W.mg_none_of X G z11, PySem.W.mg_none_of X G z12, PySem.W.mg_none_of X G z13, PySem.W.mg_none_of X G z14, PySem.W.mg_of X G z15⟩
  refine ⟨PySem.W.fnOf "law" "law" (defArgs s_law) (defBody s_law) (defScope s_law) .none kV30 dc30 pm30 an30 cd30 ct30, fun s v => .of_eq rfl, fun base _ _ nd => ?_⟩
  have D13 : Op l.prog w K mg base "_law_open_cells" 1 := ok__law_open_cells T (fun_mk (st := s__law_open_cells) l13 c13 k13) (PySem.W.mg_of X G a13)
  have D7 : Df l.prog w K mg base "mean_of_rows" 1 (spD ⟨K, w⟩ 1 F_mean_of_rows) := ok_mean_of_rows T (fun_mk (st := s_mean_of_rows) l7 c7 k7) (PySem.W.mg_of X G a7) nd 
  have D8 : Df l.prog w K mg base "falling" 2 (spD ⟨K, w⟩ 3 F_falling) := ok_falling T (fun_mk (st := s_falling) l8 c8 k8) (PySem.W.mg_of X G a8) nd D7
  have D2 : Df l.prog w K mg base "fraction_of" 1 (spD ⟨K, w⟩ 2 F_fraction_of) := ok_fraction_of T (fun_mk (st := s_fraction_of) l2 c2 k2) (PySem.W.mg_of X G a2) nd 
  have D9 : Df l.prog w K mg base "greatest_powers" 1 (spD ⟨K, w⟩ 2 F_greatest_powers) := ok_greatest_powers T (fun_mk (st := s_greatest_powers) l9 c9 k9) (PySem.W.mg_of X G a9) nd 
  have D1 : Df l.prog w K mg base "number_power" 1 (spD ⟨K, w⟩ 2 F_number_power) := ok_number_power T (fun_mk (st := s_number_power) l1 c1 k1) (PySem.W.mg_of X G a1) nd 
  have D10 : Df l.prog w K mg base "size_product" 2 (spD ⟨K, w⟩ 2 F_size_product) := ok_size_product T (fun_mk (st := s_size_product) l10 c10 k10) (PySem.W.mg_of X G a10) nd D1
  have D11 : Df l.prog w K mg base "mean_at" 3 (spD ⟨K, w⟩ 2 F_mean_at) := ok_mean_at T (fun_mk (st := s_mean_at) l11 c11 k11) (PySem.W.mg_of X G a11) nd D2 D9 D10
  have D14 : Df l.prog w K mg base "_law_pick" 1 (spS ⟨K, w⟩ 1 F__law_pick) := ok__law_pick T (fun_mk (st := s__law_pick) l14 c14 k14) (PySem.W.mg_of X G a14) nd 
  have D16 : Df l.prog w K mg base "_law_fraction" 1 (spD ⟨K, w⟩ 2 F__law_fraction) := ok__law_fraction T (fun_mk (st := s__law_fraction) l16 c16 k16) (PySem.W.mg_of X G a16) nd 
  have D17 : Df l.prog w K mg base "_law_by" 2 (spD ⟨K, w⟩ 2 F__law_by) := ok__law_by T (fun_mk (st := s__law_by) l17 c17 k17) (PySem.W.mg_of X G a17) nd D16
  have D19 : Df l.prog w K mg base "_law_power" 1 (spD ⟨K, w⟩ 2 F__law_power) := ok__law_power T (fun_mk (st := s__law_power) l19 c19 k19) (PySem.W.mg_of X G a19) nd 
  have D20 : Df l.prog w K mg base "_law_mean_at" 2 (spD ⟨K, w⟩ 2 F__law_mean_at) := ok__law_mean_at T (fun_mk (st := s__law_mean_at) l20 c20 k20) (PySem.W.mg_of X G a20) nd D16 D19
  have D22 : Df l.prog w K mg base "_law_is_int" 1 (spD ⟨K, w⟩ 1 F__law_is_int) := ok__law_is_int T (fun_mk (st := s__law_is_int) l22 c22 k22) (PySem.W.mg_of X G a22) nd 
  have D23 : Df l.prog w K mg base "_law_is_mean" 2 (spD ⟨K, w⟩ 2 F__law_is_mean) := ok__law_is_mean T (fun_mk (st := s__law_is_mean) l23 c23 k23) (PySem.W.mg_of X G a23) nd D22
  have D29 : Df l.prog w K mg base "_law_each_behind" 1 (spD ⟨K, w⟩ 2 F__law_each_behind) := ok__law_each_behind T (fun_mk (st := s__law_each_behind) l29 c29 k29) (PySem.W.mg_of X G a29) nd 
  have D25 : Df l.prog w K mg base "_law_rows_unlike" 2 (spD ⟨K, w⟩ 2 F__law_rows_unlike) := ok__law_rows_unlike T (fun_mk (st := s__law_rows_unlike) l25 c25 k25) (PySem.W.mg_of X G a25) nd D29
  have D26 : Df l.prog w K mg base "_law_falling_right" 4 (spS ⟨K, w⟩ 0 F__law_falling_right) := ok__law_falling_right T (fun_mk (st := s__law_falling_right) l26 c26 k26) (PySem.W.mg_of X G a26) nd D8 D11 D14 D16 D17 D20 D23 D25
  have D12 : Df l.prog w K mg base "mean_row" 3 (spD ⟨K, w⟩ 3 F_mean_row) := ok_mean_row T (fun_mk (st := s_mean_row) l12 c12 k12) (PySem.W.mg_of X G a12) nd D9 D10
  have D15 : Df l.prog w K mg base "_law_of" 2 (spS ⟨K, w⟩ 1 F__law_of) := ok__law_of T (fun_mk (st := s__law_of) l15 c15 k15) (PySem.W.mg_of X G a15) nd D14
  have D18 : Df l.prog w K mg base "_law_drawn_mean" 3 (spS ⟨K, w⟩ 3 F__law_drawn_mean) := ok__law_drawn_mean T (fun_mk (st := s__law_drawn_mean) l18 c18 k18) (PySem.W.mg_of X G a18) nd D14 D15
  have D27 : Df l.prog w K mg base "_law_row_right" 4 (spS ⟨K, w⟩ 0 F__law_row_right) := ok__law_row_right T (fun_mk (st := s__law_row_right) l27 c27 k27) (PySem.W.mg_of X G a27) nd D9 D12 D14 D15 D16 D18 D19 D20
  have D0 : Df l.prog w K mg base "is_integer" 1 (spD ⟨K, w⟩ 1 F_is_integer) := ok_is_integer T (fun_mk (st := s_is_integer) l0 c0 k0) (PySem.W.mg_of X G a0) nd 
  have D3 : Df l.prog w K mg base "is_fraction" 2 (spD ⟨K, w⟩ 1 F_is_fraction) := ok_is_fraction T (fun_mk (st := s_is_fraction) l3 c3 k3) (PySem.W.mg_of X G a3) nd D0
  have D4 : Df l.prog w K mg base "are_powers" 2 (spD ⟨K, w⟩ 2 F_are_powers) := ok_are_powers T (fun_mk (st := s_are_powers) l4 c4 k4) (PySem.W.mg_of X G a4) nd D0
  have D5 : Df l.prog w K mg base "is_member" 3 (spD ⟨K, w⟩ 2 F_is_member) := ok_is_member T (fun_mk (st := s_is_member) l5 c5 k5) (PySem.W.mg_of X G a5) nd D0 D4
  have D6 : Df l.prog w K mg base "is_mean" 4 (spD ⟨K, w⟩ 2 F_is_mean) := ok_is_mean T (fun_mk (st := s_is_mean) l6 c6 k6) (PySem.W.mg_of X G a6) nd D5
  have R21_0 : Df l.prog w K mg base "_law_bent" 2 (spS ⟨K, w⟩ 2 (FR__law_bent 0)) := DL.df_none (ps := ["source", "value", "odd"]) (fun_mk (st := s__law_bent) l21 c21 k21) (PySem.W.mg_of X G a21) (fun _ _ _ _ _ _ us hl => match us, hl with | [_, _, _], _ => rfl) (fun _ _ h => h)
  have R21_1 : Df l.prog w K mg base "_law_bent" 3 (spS ⟨K, w⟩ 2 (FR__law_bent 1)) := ok__law_bent T (fun_mk (st := s__law_bent) l21 c21 k21) (PySem.W.mg_of X G a21) nd 0 R21_0 D14 D15
  have R21_2 : Df l.prog w K mg base "_law_bent" 4 (spS ⟨K, w⟩ 2 (FR__law_bent 2)) := ok__law_bent T (fun_mk (st := s__law_bent) l21 c21 k21) (PySem.W.mg_of X G a21) nd 1 R21_1 D14 D15
  have R21_3 : Df l.prog w K mg base "_law_bent" 5 (spS ⟨K, w⟩ 2 (FR__law_bent 3)) := ok__law_bent T (fun_mk (st := s__law_bent) l21 c21 k21) (PySem.W.mg_of X G a21) nd 2 R21_2 D14 D15
  have R21_4 : Df l.prog w K mg base "_law_bent" 6 (spS ⟨K, w⟩ 2 (FR__law_bent 4)) := ok__law_bent T (fun_mk (st := s__law_bent) l21 c21 k21) (PySem.W.mg_of X G a21) nd 3 R21_3 D14 D15
  have D21 := R21_4
  have D24 : Df l.prog w K mg base "_law_is_fraction" 2 (spD ⟨K, w⟩ 1 F__law_is_fraction) := ok__law_is_fraction T (fun_mk (st := s__law_is_fraction) l24 c24 k24) (PySem.W.mg_of X G a24) nd D16 D22
  have D28 : Df l.prog w K mg base "_law_kinds_right" 7 (spS ⟨K, w⟩ 1 F__law_kinds_right) := ok__law_kinds_right T (fun_mk (st := s__law_kinds_right) l28 c28 k28) (PySem.W.mg_of X G a28) nd D0 D3 D6 D14 D15 D16 D18 D21 D22 D23 D24
  exact ok_law T (fun_mk (st := s_law) l30 c30 k30) nd D13 D26 D27 D28
end
end K50
end
open PySem PySem.W PyProof.Rows
set_option maxHeartbeats 0 in
theorem PySem.Challenge.cw_drawntables_k50_falling_products_and_row_holds : PySem.Challenge.rw_drawntables_k50_falling_products_and_row.Holds := by
  w_on; o_law; k_head; (case hw => w_witness2)
  k_fill
  refine DL.walk_G (l := PySem.Challenge.rw_drawntables_k50_falling_products_and_row) (n := 63) (k := 8) (x := "script") (sp := fun w => DL.spLaw _) rfl (by decide) rfl ⟨rfl, by decide, by decide⟩ (fun w h Y => PySem.W.kIn_of Y) ?F (fun _ _ a ns hl _ _ hS => ⟨a, ns, rfl, hS, hl, fun _ => rfl⟩)
  case F =>
    intro w mg fa h KX G hmg
    refine' K50.all_mk KX G hmg ?a0 ?l0 ?c0 ?k0 ?a1 ?l1 ?c1 ?k1 ?a2 ?l2 ?c2 ?k2 ?a3 ?l3 ?c3 ?k3 ?a4 ?l4 ?c4 ?k4 ?a5 ?l5 ?c5 ?k5 ?a6 ?l6 ?c6 ?k6 ?a7 ?l7 ?c7 ?k7 ?a8 ?l8 ?c8 ?k8 ?a9 ?l9 ?c9 ?k9 ?a10 ?l10 ?c10 ?k10 ?a11 ?l11 ?c11 ?k11 ?a12 ?l12 ?c12 ?k12 ?a13 ?l13 ?c13 ?k13 ?a14 ?l14 ?c14 ?k14 ?a15 ?l15 ?c15 ?k15 ?a16 ?l16 ?c16 ?k16 ?a17 ?l17 ?c17 ?k17 ?a18 ?l18 ?c18 ?k18 ?a19 ?l19 ?c19 ?k19 ?a20 ?l20 ?c20 ?k20 ?a21 ?l21 ?c21 ?k21 ?a22 ?l22 ?c22 ?k22 ?a23 ?l23 ?c23 ?k23 ?a24 ?l24 ?c24 ?k24 ?a25 ?l25 ?c25 ?k25 ?a26 ?l26 ?c26 ?k26 ?a27 ?l27 ?c27 ?k27 ?a28 ?l28 ?c28 ?k28 ?a29 ?l29 ?c29 ?k29 ?a30 ?l30 ?c30 ?k30 ?z0 ?z1 ?z2 ?z3 ?z4 ?z5 ?z6 ?z7 ?z8 ?z9 ?z10 ?z11 ?z12 ?z13 ?z14 ?z15
    (case a0 => k_is); (case l0 => k_is); (case c0 => k_is); (case k0 => k_is)
    (case a1 => k_is); (case l1 => k_is); (case c1 => k_is); (case k1 => k_is)
    (case a2 => k_is); (case l2 => k_is); (case c2 => k_is); (case k2 => k_is)
    (case a3 => k_is); (case l3 => k_is); (case c3 => k_is); (case k3 => k_is)
    (case a4 => k_is); (case l4 => k_is); (case c4 => k_is); (case k4 => k_is)
    (case a5 => k_is); (case l5 => k_is); (case c5 => k_is); (case k5 => k_is)
    (case a6 => k_is); (case l6 => k_is); (case c6 => k_is); (case k6 => k_is)
    (case a7 => k_is); (case l7 => k_is); (case c7 => k_is); (case k7 => k_is)
    (case a8 => k_is); (case l8 => k_is); (case c8 => k_is); (case k8 => k_is)
    (case a9 => k_is); (case l9 => k_is); (case c9 => k_is); (case k9 => k_is)
    (case a10 => k_is); (case l10 => k_is); (case c10 => k_is); (case k10 => k_is)
    (case a11 => k_is); (case l11 => k_is); (case c11 => k_is); (case k11 => k_is)
    (case a12 => k_is); (case l12 => k_is); (case c12 => k_is); (case k12 => k_is)
    (case a13 => k_is); (case l13 => k_is); (case c13 => k_is); (case k13 => k_is)
    (case a14 => k_is); (case l14 => k_is); (case c14 => k_is); (case k14 => k_is)
    (case a15 => k_is); (case l15 => k_is); (case c15 => k_is); (case k15 => k_is)
    (case a16 => k_is); (case l16 => k_is); (case c16 => k_is); (case k16 => k_is)
    (case a17 => k_is); (case l17 => k_is); (case c17 => k_is); (case k17 => k_is)
    (case a18 => k_is); (case l18 => k_is); (case c18 => k_is); (case k18 => k_is)
    (case a19 => k_is); (case l19 => k_is); (case c19 => k_is); (case k19 => k_is)
    (case a20 => k_is); (case l20 => k_is); (case c20 => k_is); (case k20 => k_is)
    (case a21 => k_is); (case l21 => k_is); (case c21 => k_is); (case k21 => k_is)
    (case a22 => k_is); (case l22 => k_is); (case c22 => k_is); (case k22 => k_is)
    (case a23 => k_is); (case l23 => k_is); (case c23 => k_is); (case k23 => k_is)
    (case a24 => k_is); (case l24 => k_is); (case c24 => k_is); (case k24 => k_is)
    (case a25 => k_is); (case l25 => k_is); (case c25 => k_is); (case k25 => k_is)
    (case a26 => k_is); (case l26 => k_is); (case c26 => k_is); (case k26 => k_is)
    (case a27 => k_is); (case l27 => k_is); (case c27 => k_is); (case k27 => k_is)
    (case a28 => k_is); (case l28 => k_is); (case c28 => k_is); (case k28 => k_is)
    (case a29 => k_is); (case l29 => k_is); (case c29 => k_is); (case k29 => k_is)
    (case a30 => k_is); (case l30 => k_is); (case c30 => k_is); (case k30 => k_is)
    (case z0 => k_is); (case z1 => k_is); (case z2 => k_is); (case z3 => k_is); (case z4 => k_is); (case z5 => k_is); (case z6 => k_is); (case z7 => k_is); (case z8 => k_is); (case z9 => k_is); (case z10 => k_is); (case z11 => k_is); (case z12 => k_is); (case z13 => k_is); (case z14 => k_is); (case z15 => k_is)
