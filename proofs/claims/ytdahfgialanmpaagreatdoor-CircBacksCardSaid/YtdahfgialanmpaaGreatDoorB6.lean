/- CircBacks: a part of the proof of the given statement, which is proved without conditions. -/
import Derived.Test.YtdahfgialanmpaaGreatDoorB5
import Derived.KernelRfl
import Derived.Test.YtdahfgialanmpaaGreatDoorProg
import Derived.Laws.BitsLemmas
set_option linter.all false
namespace Go.Proofs.YtdahfgialanmpaaGreatDoor
set_option maxRecDepth 100000
open Ev
open Go (IntKind)
open Go
noncomputable abbrev ZP:=Tryz.prog
theorem zafw:fnB ZP 19 Tryz.f19 [4,9,14]=true:=by kernel_rfl
theorem zafd:CG ZP sg @zaos:=cg0
theorem zaub:zaf ZP sg 0 Tryz.f19 @zjc 4:=zas z7u good Tryz.func19 zafw zafd zaa (fun a=>by kernel_rfl) (by kernel_rfl) (fun _ _=>rfl)
theorem zauc:zaf ZP sg 0 Tryz.f19 @zjc 9:=zas z7v good Tryz.func19 zafw zafd zaa (fun a=>by kernel_rfl) (by kernel_rfl) (fun _ _=>rfl)
theorem zagi:zaf ZP sg 0 Tryz.f19 @zjc 14:=zas zyh good Tryz.func19 zafw zafd zaa (fun a=>by kernel_rfl) (by kernel_rfl) (fun _ _=>rfl)
theorem za1a:SG ZP sg 19 @za4i:=conD (loops:=zjc) good Tryz.func19 zafw (by kernel_rfl) zafd (all_cons zaub (all_cons zauc (all_cons zagi zaa))) (fun a=>by kernel_rfl)
theorem zu1:SG ZP sg 258 @zwz:=conE good Tryz.func258 (by kernel_rfl) (by kernel_rfl) cg0 (fun a=>by kernel_rfl)
theorem zalf:fnB ZP 174 Tryz.f174 [2]=true:=by kernel_rfl
theorem zajx:CG ZP sg @zaek:=(cgc zu1 cg0)
theorem zagr:zaf ZP sg 0 Tryz.f174 @zs6 2:=zas zyq good Tryz.func174 zalf zajx zaa (fun a=>by kernel_rfl) (by kernel_rfl) (fun _ _=>rfl)
theorem z5l:SG ZP sg 174 @zwv:=conD (loops:=zs6) good Tryz.func174 zalf (by kernel_rfl) zajx (all_cons zagr zaa) (fun a=>by kernel_rfl)
theorem za1f:SG ZP sg 259 @zan2:=conE good Tryz.func259 (by kernel_rfl) (by kernel_rfl) (cgc zu1 cg0) (fun a=>by kernel_rfl)
theorem zap4:SG ZP sg 260 @zaa0:=conE good Tryz.func260 (by kernel_rfl) (by kernel_rfl) cg0 (fun a=>by kernel_rfl)
theorem zalg:fnB ZP 175 Tryz.f175 [4]=true:=by kernel_rfl
theorem zajp:CG ZP sg @zad6:=(cgc zu1 (cgc za1f (cgc zap4 cg0)))
theorem zagd:zaf ZP sg 0 Tryz.f175 @zsx 4:=zas zyc good Tryz.func175 zalg zajp zaa (fun a=>by kernel_rfl) (by kernel_rfl) (fun _ _=>rfl)
theorem zapu:SG ZP sg 175 @zaav:=conD (loops:=zsx) good Tryz.func175 zalg (by kernel_rfl) zajp (all_cons zagd zaa) (fun a=>by kernel_rfl)
theorem za16:fnB ZP 68 Tryz.f68 [4]=true:=by kernel_rfl
theorem zaj2:CG ZP sg @zaep:=(cgc z5l (cgc zapu cg0))
theorem zagw:zaf ZP sg 0 Tryz.f68 @ztb 4:=zas zyv good Tryz.func68 za16 zaj2 zaa (fun a=>by kernel_rfl) (by kernel_rfl) (fun _ _=>rfl)
theorem zap9:SG ZP sg 68 @zaa4:=conD (loops:=ztb) good Tryz.func68 za16 (by kernel_rfl) zaj2 (all_cons zagw zaa) (fun a=>by kernel_rfl)
theorem za17:fnB ZP 69 Tryz.f69 [4]=true:=by kernel_rfl
theorem zaj1:CG ZP sg @zaeo:=cg0
theorem zagv:zaf ZP sg 0 Tryz.f69 @zta 4:=zas zyu good Tryz.func69 za17 zaj1 zaa (fun a=>by kernel_rfl) (by kernel_rfl) (fun _ _=>rfl)
theorem zap8:SG ZP sg 69 @zaa3:=conD (loops:=zta) good Tryz.func69 za17 (by kernel_rfl) zaj1 (all_cons zagv zaa) (fun a=>by kernel_rfl)
theorem z5z:SG ZP sg 261 @zabl:=conE good Tryz.func261 (by kernel_rfl) (by kernel_rfl) cg0 (fun a=>by kernel_rfl)
theorem z6g:SG ZP sg 262 @zach:=conE good Tryz.func262 (by kernel_rfl) (by kernel_rfl) cg0 (fun a=>by kernel_rfl)
theorem zarb:SG ZP sg 176 @zab1:=conE good Tryz.func176 (by kernel_rfl) (by kernel_rfl) (cgc z5z (cgc z6g cg0)) (fun a=>by kernel_rfl)
theorem zaf0:fnB ZP 70 Tryz.f70 [4,12,15]=true:=by kernel_rfl
theorem zaff:CG ZP sg @zao3:=(cgc zarb cg0)
theorem zauo:zaf ZP sg 0 Tryz.f70 @zje 4:=zas z8d good Tryz.func70 zaf0 zaff zaa (fun a=>by kernel_rfl) (by kernel_rfl) (fun _ _=>rfl)
theorem zzy:zaf ZP sg 0 Tryz.f70 @zje 15:=zas zzr good Tryz.func70 zaf0 zaff zaa (fun a=>by kernel_rfl) (by kernel_rfl) (fun _ _=>rfl)
theorem zahr:zaf ZP sg 0 Tryz.f70 @zje 12:=zas zzq good Tryz.func70 zaf0 zaff (all_cons zzy zaa) (fun a=>by kernel_rfl) (by kernel_rfl) (fun _ _=>rfl)
theorem za1k:SG ZP sg 70 @zan6:=conD (loops:=zje) good Tryz.func70 zaf0 (by kernel_rfl) zaff (all_cons zauo (all_cons zahr (all_cons zzy zaa))) (fun a=>by kernel_rfl)
theorem z6d:SG ZP sg 177 @zab5:=conE good Tryz.func177 (by kernel_rfl) (by kernel_rfl) cg0 (fun a=>by kernel_rfl)
theorem za18:fnB ZP 71 Tryz.f71 [4]=true:=by kernel_rfl
theorem zajz:CG ZP sg @zaem:=(cgc z6d cg0)
theorem zagt:zaf ZP sg 0 Tryz.f71 @zs8 4:=zas zys good Tryz.func71 za18 zajz zaa (fun a=>by kernel_rfl) (by kernel_rfl) (fun _ _=>rfl)
theorem z5n:SG ZP sg 71 @zww:=conD (loops:=zs8) good Tryz.func71 za18 (by kernel_rfl) zajz (all_cons zagt zaa) (fun a=>by kernel_rfl)
theorem zaqn:SG ZP sg 263 @zawy:=conE good Tryz.func263 (by kernel_rfl) (by kernel_rfl) cg0 (fun a=>by kernel_rfl)
theorem zara:SG ZP sg 178 @zab0:=conE good Tryz.func178 (by kernel_rfl) (by kernel_rfl) (cgc zaqn cg0) (fun a=>by kernel_rfl)
theorem zatq:fnB ZP 72 Tryz.f72 [4,9]=true:=by kernel_rfl
theorem zaph:CG ZP sg @zao1:=(cgc zara cg0)
theorem z83:zaf ZP sg 0 Tryz.f72 @zql 9:=zas z8b good Tryz.func72 zatq zaph zaa (fun a=>by kernel_rfl) (by kernel_rfl) (fun _ _=>rfl)
theorem zaum:zaf ZP sg 0 Tryz.f72 @zql 4:=zas z8a good Tryz.func72 zatq zaph (all_cons z83 zaa) (fun a=>by kernel_rfl) (by kernel_rfl) (fun _ _=>rfl)
theorem za1i:SG ZP sg 72 @zan5:=conD (loops:=zql) good Tryz.func72 zatq (by kernel_rfl) zaph (all_cons zaum (all_cons z83 zaa)) (fun a=>by kernel_rfl)
theorem zatr:fnB ZP 73 Tryz.f73 [6,11]=true:=by kernel_rfl
theorem zapj:CG ZP sg @zao9:=cg0
theorem zauv:zaf ZP sg 0 Tryz.f73 @zqn 6:=zas z8m good Tryz.func73 zatr zapj zaa (fun a=>by kernel_rfl) (by kernel_rfl) (fun _ _=>rfl)
theorem zahw:zaf ZP sg 0 Tryz.f73 @zqn 11:=zas zzw good Tryz.func73 zatr zapj zaa (fun a=>by kernel_rfl) (by kernel_rfl) (fun _ _=>rfl)
theorem zaku:SG ZP sg 73 @zan8:=conD (loops:=zqn) good Tryz.func73 zatr (by kernel_rfl) zapj (all_cons zauv (all_cons zahw zaa)) (fun a=>by kernel_rfl)
theorem zalh:fnB ZP 179 Tryz.f179 [2]=true:=by kernel_rfl
theorem zajk:CG ZP sg @zad1:=cg0
theorem zaf8:zaf ZP sg 0 Tryz.f179 @zss 2:=zas zx7 good Tryz.func179 zalh zajk zaa (fun a=>by kernel_rfl) (by kernel_rfl) (fun _ _=>rfl)
theorem zapq:SG ZP sg 179 @zav2:=conD (loops:=zss) good Tryz.func179 zalh (by kernel_rfl) zajk (all_cons zaf8 zaa) (fun a=>by kernel_rfl)
theorem zph:SG ZP sg 74 @zqx:=conE good Tryz.func74 (by kernel_rfl) (by kernel_rfl) (cgc zapq cg0) (fun a=>by kernel_rfl)
theorem zarc:SG ZP sg 85 @zab2:=conE good Tryz.func85 (by kernel_rfl) (by kernel_rfl) cg0 (fun a=>by kernel_rfl)
theorem zas5:SG ZP sg 306 @zay1:=conE good Tryz.func306 (by kernel_rfl) (by kernel_rfl) cg0 (fun a=>by kernel_rfl)
theorem zard:SG ZP sg 275 @zaxp:=conE good Tryz.func275 (by kernel_rfl) (by kernel_rfl) (cgc zas5 cg0) (fun a=>by kernel_rfl)
theorem zasn:SG ZP sg 276 @zayn:=conE good Tryz.func276 (by kernel_rfl) (by kernel_rfl) cg0 (fun a=>by kernel_rfl)
theorem zaro:SG ZP sg 307 @zacf:=conE good Tryz.func307 (by kernel_rfl) (by kernel_rfl) cg0 (fun a=>by kernel_rfl)
theorem zalw:fnB ZP 277 Tryz.f277 [3]=true:=by kernel_rfl
theorem zaj0:CG ZP sg @zaen:=(cgc zaro cg0)
theorem zagu:zaf ZP sg 0 Tryz.f277 @zs9 3:=zas zyt good Tryz.func277 zalw zaj0 zaa (fun a=>by kernel_rfl) (by kernel_rfl) (fun _ _=>rfl)
theorem zap7:SG ZP sg 277 @zawi:=conD (loops:=zs9) good Tryz.func277 zalw (by kernel_rfl) zaj0 (all_cons zagu zaa) (fun a=>by kernel_rfl)
theorem zarp:SG ZP sg 278 @zaxt:=conE good Tryz.func278 (by kernel_rfl) (by kernel_rfl) cg0 (fun a=>by kernel_rfl)
theorem zatc:SG ZP sg 279 @zay8:=conE good Tryz.func279 (by kernel_rfl) (by kernel_rfl) cg0 (fun a=>by kernel_rfl)
theorem z54:SG ZP sg 200 @zw2:=conE good Tryz.func200 (by kernel_rfl) (by kernel_rfl) (cgc zard (cgc zasn (cgc zap7 (cgc zarp (cgc zatc cg0))))) (fun a=>by kernel_rfl)
theorem zali:fnB ZP 180 Tryz.f180 [5]=true:=by kernel_rfl
theorem zajy:CG ZP sg @zael:=(cgc zarc (cgc z54 cg0))
theorem zags:zaf ZP sg 0 Tryz.f180 @zs7 5:=zas zyr good Tryz.func180 zali zajy zaa (fun a=>by kernel_rfl) (by kernel_rfl) (fun _ _=>rfl)
theorem zap6:SG ZP sg 180 @zaa2:=conD (loops:=zs7) good Tryz.func180 zali (by kernel_rfl) zajy (all_cons zags zaa) (fun a=>by kernel_rfl)
theorem za19:fnB ZP 84 Tryz.f84 [2]=true:=by kernel_rfl
theorem za01:CG ZP sg @zaoz:=cg0
theorem zauk:zaf ZP sg 0 Tryz.f84 @zz5 2:=zas z78 good Tryz.func84 za19 za01 zaa (fun a=>by kernel_rfl) (by kernel_rfl) (fun _ _=>rfl)
theorem zg5:SG ZP sg 84 @zue:=conD (loops:=zz5) good Tryz.func84 za19 (by kernel_rfl) za01 (all_cons zauk zaa) (fun a=>by kernel_rfl)
theorem zats:fnB ZP 75 Tryz.f75 [4,15]=true:=by kernel_rfl
theorem z44:CG ZP sg @zaec:=(cgc zg5 (cgc z5l (cgc zap6 cg0)))
theorem zagk:zaf ZP sg 0 Tryz.f75 @zkz 4:=zas zyj good Tryz.func75 zats z44 zaa (fun a=>by kernel_rfl) (by kernel_rfl) (fun _ _=>rfl)
theorem z8w:zaf ZP sg 0 Tryz.f75 @zkz 15:=zas zsi good Tryz.func75 zats z44 zaa (fun a=>by kernel_rfl) (by kernel_rfl) (fun _ _=>rfl)
theorem zapy:SG ZP sg 75 @zaay:=conD (loops:=zkz) good Tryz.func75 zats (by kernel_rfl) z44 (all_cons zagk (all_cons z8w zaa)) (fun a=>by kernel_rfl)
theorem z6i:SG ZP sg 111 @zaci:=conE good Tryz.func111 (by kernel_rfl) (by kernel_rfl) cg0 (fun a=>by kernel_rfl)
theorem zalk:fnB ZP 201 Tryz.f201 [2]=true:=by kernel_rfl
theorem zajv:CG ZP sg @zaei:=cg0
theorem zagp:zaf ZP sg 0 Tryz.f201 @zs4 2:=zas zyo good Tryz.func201 zalk zajv zaa (fun a=>by kernel_rfl) (by kernel_rfl) (fun _ _=>rfl)
theorem z5j:SG ZP sg 201 @zawf:=conD (loops:=zs4) good Tryz.func201 zalk (by kernel_rfl) zajv (all_cons zagp zaa) (fun a=>by kernel_rfl)
theorem zarf:SG ZP sg 122 @zab3:=conE good Tryz.func122 (by kernel_rfl) (by kernel_rfl) (cgc z5j cg0) (fun a=>by kernel_rfl)
theorem zatt:fnB ZP 76 Tryz.f76 [2,10]=true:=by kernel_rfl
theorem z43:CG ZP sg @zaeb:=(cgc zph (cgc zg5 (cgc z6i (cgc zarf cg0))))
theorem zagj:zaf ZP sg 0 Tryz.f76 @zky 2:=zas zyi good Tryz.func76 zatt z43 zaa (fun a=>by kernel_rfl) (by kernel_rfl) (fun _ _=>rfl)
theorem z8v:zaf ZP sg 0 Tryz.f76 @zky 10:=zas zsh good Tryz.func76 zatt z43 zaa (fun a=>by kernel_rfl) (by kernel_rfl) (fun _ _=>rfl)
theorem zapx:SG ZP sg 76 @zaax:=conD (loops:=zky) good Tryz.func76 zatt (by kernel_rfl) z43 (all_cons zagj (all_cons z8v zaa)) (fun a=>by kernel_rfl)
theorem zak2:fnB ZP 105 Tryz.f105 [2]=true:=by kernel_rfl
theorem zajw:CG ZP sg @zaej:=cg0
theorem zagq:zaf ZP sg 0 Tryz.f105 @zs5 2:=zas zyp good Tryz.func105 zak2 zajw zaa (fun a=>by kernel_rfl) (by kernel_rfl) (fun _ _=>rfl)
theorem z5k:SG ZP sg 105 @zaa1:=conD (loops:=zs5) good Tryz.func105 zak2 (by kernel_rfl) zajw (all_cons zagq zaa) (fun a=>by kernel_rfl)
theorem zatu:fnB ZP 77 Tryz.f77 [2,18]=true:=by kernel_rfl
theorem z45:CG ZP sg @zaed:=(cgc zph (cgc zg5 (cgc z5k cg0)))
theorem zagl:zaf ZP sg 0 Tryz.f77 @zk0 2:=zas zyk good Tryz.func77 zatu z45 zaa (fun a=>by kernel_rfl) (by kernel_rfl) (fun _ _=>rfl)
theorem z8x:zaf ZP sg 0 Tryz.f77 @zk0 18:=zas zsj good Tryz.func77 zatu z45 zaa (fun a=>by kernel_rfl) (by kernel_rfl) (fun _ _=>rfl)
theorem zapz:SG ZP sg 77 @zaaz:=conD (loops:=zk0) good Tryz.func77 zatu (by kernel_rfl) z45 (all_cons zagl (all_cons z8x zaa)) (fun a=>by kernel_rfl)
theorem zatn:fnB ZP 21 Tryz.f21 [6,11]=true:=by kernel_rfl
theorem z49:CG ZP sg @zaeh:=(cgc zap9 (cgc zap8 (cgc za1k (cgc z5n (cgc za1i (cgc zaku (cgc zph (cgc zapy (cgc zapx (cgc zapz cg0))))))))))
theorem zago:zaf ZP sg 0 Tryz.f21 @zk3 6:=zas zyn good Tryz.func21 zatn z49 zaa (fun a=>by kernel_rfl) (by kernel_rfl) (fun _ _=>rfl)
theorem z81:zaf ZP sg 0 Tryz.f21 @zk3 11:=zas zsn good Tryz.func21 zatn z49 zaa (fun a=>by kernel_rfl) (by kernel_rfl) (fun _ _=>rfl)
theorem zap3:SG ZP sg 21 @zawe:=conD (loops:=zk3) good Tryz.func21 zatn (by kernel_rfl) z49 (all_cons zago (all_cons z81 zaa)) (fun a=>by kernel_rfl)
theorem zatd:SG ZP sg 22 @zay9:=conE good Tryz.func22 (by kernel_rfl) (by kernel_rfl) (cgc za1a (cgc zap3 cg0)) (fun a=>by kernel_rfl)
theorem zasf:SG ZP sg 17 @zayg:=conE good Tryz.func17 (by kernel_rfl) (by kernel_rfl) cg0 (fun a=>by kernel_rfl)
theorem zarm:SG ZP sg 181 @zacd:=conE good Tryz.func181 (by kernel_rfl) (by kernel_rfl) cg0 (fun a=>by kernel_rfl)
theorem z1r:fnB ZP 80 Tryz.f80 [2]=true:=by kernel_rfl
theorem za0z:CG ZP sg @zaow:=(cgc zarm cg0)
theorem zaug:zaf ZP sg 0 Tryz.f80 @zz3 2:=zas z71 good Tryz.func80 z1r za0z zaa (fun a=>by kernel_rfl) (by kernel_rfl) (fun _ _=>rfl)
theorem za1e:SG ZP sg 80 @za4l:=conD (loops:=zz3) good Tryz.func80 z1r (by kernel_rfl) za0z (all_cons zaug zaa) (fun a=>by kernel_rfl)
theorem zgo:SG ZP sg 78 @zmd:=conE good Tryz.func78 (by kernel_rfl) (by kernel_rfl) (cgc za1e cg0) (fun a=>by kernel_rfl)
theorem z6p:SG ZP sg 79 @zacr:=conE good Tryz.func79 (by kernel_rfl) (by kernel_rfl) cg0 (fun a=>by kernel_rfl)
theorem zari:SG ZP sg 81 @zab7:=conE good Tryz.func81 (by kernel_rfl) (by kernel_rfl) cg0 (fun a=>by kernel_rfl)
theorem zxx:CG ZP sg @z06:=(cgc zari cg0)
theorem z2b:zaf ZP sg 0 Tryz.f80 @zk8 2:=zas zny good Tryz.func80 z1r zxx zaa (fun a=>by kernel_rfl) (by kernel_rfl) (fun _ _=>rfl)
theorem z6n:SG ZP sg 80 @zacp:=conD (loops:=zk8) good Tryz.func80 z1r (by kernel_rfl) zxx (all_cons z2b zaa) (fun a=>by kernel_rfl)
theorem z55:SG ZP sg 83 @zaxl:=conS (loops:=l0) (ids:=[]) good Tryz.func83 (by kernel_rfl) (by kernel_rfl) cg0 zaa (fun a=>by kernel_rfl) (by kernel_rfl)
theorem zpg:SG ZP sg 62 @zabq:=conE good Tryz.func62 (by kernel_rfl) (by kernel_rfl) cg0 (fun a=>by kernel_rfl)
theorem zar9:SG ZP sg 166 @zacq:=conE good Tryz.func166 (by kernel_rfl) (by kernel_rfl) (cgc zpg (cgc (sgP z6f) cg0)) (fun a=>by kernel_rfl)
theorem zpf:SG ZP sg 162 @zabj:=conE good Tryz.func162 (by kernel_rfl) (by kernel_rfl) cg0 (fun a=>by kernel_rfl)
theorem zas3:SG ZP sg 238 @zayz:=conE good Tryz.func238 (by kernel_rfl) (by kernel_rfl) (cgc zpf cg0) (fun a=>by kernel_rfl)
theorem zas2:SG ZP sg 239 @zayy:=conE good Tryz.func239 (by kernel_rfl) (by kernel_rfl) (cgc zpf cg0) (fun a=>by kernel_rfl)
theorem z6b:SG ZP sg 241 @zaxo:=conE good Tryz.func241 (by kernel_rfl) (by kernel_rfl) cg0 (fun a=>by kernel_rfl)
theorem zas6:SG ZP sg 240 @zay2:=conE good Tryz.func240 (by kernel_rfl) (by kernel_rfl) (cgc z6b cg0) (fun a=>by kernel_rfl)
theorem z6q:SG ZP sg 163 @zacs:=conE good Tryz.func163 (by kernel_rfl) (by kernel_rfl) (cgc zpf (cgc zas3 (cgc zas2 (cgc zas6 (cgc z6b cg0))))) (fun a=>by kernel_rfl)
theorem za14:fnB ZP 58 Tryz.f58 [5]=true:=by kernel_rfl
theorem zakg:CG ZP sg @zae3:=(cgc z6p (cgc zpf (cgc z6q cg0)))
theorem zaha:zaf ZP sg 0 Tryz.f58 @ztp 5:=zas zy9 good Tryz.func58 za14 zakg zaa (fun a=>by kernel_rfl) (by kernel_rfl) (fun _ _=>rfl)
theorem zaqp:SG ZP sg 58 @zabh:=conD (loops:=ztp) good Tryz.func58 za14 (by kernel_rfl) zakg (all_cons zaha zaa) (fun a=>by kernel_rfl)
theorem zafx:fnB ZP 63 Tryz.f63 [4,10,16]=true:=by kernel_rfl
theorem zafi:CG ZP sg @zao8:=(cgc zaqp (cgc zgo (cgc zar9 cg0)))
theorem zauu:zaf ZP sg 0 Tryz.f63 @zjh 4:=zas z8l good Tryz.func63 zafx zafi zaa (fun a=>by kernel_rfl) (by kernel_rfl) (fun _ _=>rfl)
theorem zahu:zaf ZP sg 0 Tryz.f63 @zjh 10:=zas zzu good Tryz.func63 zafx zafi zaa (fun a=>by kernel_rfl) (by kernel_rfl) (fun _ _=>rfl)
theorem zahv:zaf ZP sg 0 Tryz.f63 @zjh 16:=zas zzv good Tryz.func63 zafx zafi zaa (fun a=>by kernel_rfl) (by kernel_rfl) (fun _ _=>rfl)
theorem za1p:SG ZP sg 63 @za4s:=conD (loops:=zjh) good Tryz.func63 zafx (by kernel_rfl) zafi (all_cons zauu (all_cons zahu (all_cons zahv zaa))) (fun a=>by kernel_rfl)
theorem zaqi:SG ZP sg 245 @zaa6:=conE good Tryz.func245 (by kernel_rfl) (by kernel_rfl) (cgc (sgP z6f) (cgc (sgP zasc) cg0)) (fun a=>by kernel_rfl)
theorem zak9:fnB ZP 167 Tryz.f167 [5]=true:=by kernel_rfl
theorem zajt:CG ZP sg @zaea:=(cgc zaqi cg0)
theorem zagh:zaf ZP sg 0 Tryz.f167 @zs1 5:=zas zyg good Tryz.func167 zak9 zajt zaa (fun a=>by kernel_rfl) (by kernel_rfl) (fun _ _=>rfl)
theorem z5i:SG ZP sg 167 @zaaw:=conD (loops:=zs1) good Tryz.func167 zak9 (by kernel_rfl) zajt (all_cons zagh zaa) (fun a=>by kernel_rfl)
theorem zary:SG ZP sg 246 @zacl:=conE good Tryz.func246 (by kernel_rfl) (by kernel_rfl) cg0 (fun a=>by kernel_rfl)
theorem z6c:SG ZP sg 219 @zab4:=conE good Tryz.func219 (by kernel_rfl) (by kernel_rfl) cg0 (fun a=>by kernel_rfl)
theorem zala:fnB ZP 168 Tryz.f168 [4]=true:=by kernel_rfl
theorem zaj9:CG ZP sg @zaew:=(cgc z6c (cgc zary cg0))
theorem zag3:zaf ZP sg 0 Tryz.f168 @zti 4:=zas zy2 good Tryz.func168 zala zaj9 zaa (fun a=>by kernel_rfl) (by kernel_rfl) (fun _ _=>rfl)
theorem z5v:SG ZP sg 168 @zabd:=conD (loops:=zti) good Tryz.func168 zala (by kernel_rfl) zaj9 (all_cons zag3 zaa) (fun a=>by kernel_rfl)
theorem zu5:SG ZP sg 284 @zaxe:=conE good Tryz.func284 (by kernel_rfl) (by kernel_rfl) cg0 (fun a=>by kernel_rfl)
theorem zarw:SG ZP sg 298 @zax4:=conE good Tryz.func298 (by kernel_rfl) (by kernel_rfl) (cgc zu5 cg0) (fun a=>by kernel_rfl)
theorem zasx:SG ZP sg 247 @zacy:=conE good Tryz.func247 (by kernel_rfl) (by kernel_rfl) (cgc zu5 (cgc zarw cg0)) (fun a=>by kernel_rfl)
theorem zaq7:SG ZP sg 249 @zabv:=conE good Tryz.func249 (by kernel_rfl) (by kernel_rfl) cg0 (fun a=>by kernel_rfl)
theorem znl:fnB ZP 248 Tryz.f248 [2,5]=true:=by kernel_rfl
theorem zapg:CG ZP sg @zaov:=(cgc zaq7 cg0)
theorem z82:zaf ZP sg 0 Tryz.f248 @zqk 5:=zas z7z good Tryz.func248 znl zapg zaa (fun a=>by kernel_rfl) (by kernel_rfl) (fun _ _=>rfl)
theorem zauf:zaf ZP sg 0 Tryz.f248 @zqk 2:=zas z7y good Tryz.func248 znl zapg (all_cons z82 zaa) (fun a=>by kernel_rfl) (by kernel_rfl) (fun _ _=>rfl)
theorem za1d:SG ZP sg 248 @zan1:=conD (loops:=zqk) good Tryz.func248 znl (by kernel_rfl) zapg (all_cons zauf (all_cons z82 zaa)) (fun a=>by kernel_rfl)
theorem zaru:SG ZP sg 250 @zacj:=conE good Tryz.func250 (by kernel_rfl) (by kernel_rfl) cg0 (fun a=>by kernel_rfl)
theorem zpa:CG ZP sg @z05:=(cgc zaru cg0)
theorem zn3:zaf ZP sg 0 Tryz.f248 @zgr 5:=zas znx good Tryz.func248 znl zpa zaa (fun a=>by kernel_rfl) (by kernel_rfl) (fun _ _=>rfl)
theorem z2a:zaf ZP sg 0 Tryz.f248 @zgr 2:=zas znw good Tryz.func248 znl zpa (all_cons zn3 zaa) (fun a=>by kernel_rfl) (by kernel_rfl) (fun _ _=>rfl)
theorem z6e:SG ZP sg 248 @zuc:=conD (loops:=zgr) good Tryz.func248 znl (by kernel_rfl) zpa (all_cons z2a (all_cons zn3 zaa)) (fun a=>by kernel_rfl)
theorem zalb:fnB ZP 169 Tryz.f169 [4]=true:=by kernel_rfl
theorem za02:CG ZP sg @zao0:=(cgc zasx (cgc (sgi za1d (sgi z6e sg0)) cg0))
theorem zaul:zaf ZP sg 0 Tryz.f169 @zz6 4:=zas z79 good Tryz.func169 zalb za02 zaa (fun a=>by kernel_rfl) (by kernel_rfl) (fun _ _=>rfl)
theorem zaks:SG ZP sg 169 @zan4:=conD (loops:=zz6) good Tryz.func169 zalb (by kernel_rfl) za02 (all_cons zaul zaa) (fun a=>by kernel_rfl)
theorem zast:SG ZP sg 299 @zayt:=conE good Tryz.func299 (by kernel_rfl) (by kernel_rfl) cg0 (fun a=>by kernel_rfl)
theorem z6r:SG ZP sg 280 @zayd:=conE good Tryz.func280 (by kernel_rfl) (by kernel_rfl) cg0 (fun a=>by kernel_rfl)
theorem zaq5:SG ZP sg 251 @zabr:=conE good Tryz.func251 (by kernel_rfl) (by kernel_rfl) (cgc z6r (cgc zast cg0)) (fun a=>by kernel_rfl)
theorem zalc:fnB ZP 170 Tryz.f170 [4]=true:=by kernel_rfl
theorem zaka:CG ZP sg @zaex:=(cgc zaq5 cg0)
theorem zag4:zaf ZP sg 0 Tryz.f170 @ztj 4:=zas zy3 good Tryz.func170 zalc zaka zaa (fun a=>by kernel_rfl) (by kernel_rfl) (fun _ _=>rfl)
theorem z5w:SG ZP sg 170 @zabe:=conD (loops:=ztj) good Tryz.func170 zalc (by kernel_rfl) zaka (all_cons zag4 zaa) (fun a=>by kernel_rfl)
theorem z5p:SG ZP sg 268 @zawo:=conE good Tryz.func268 (by kernel_rfl) (by kernel_rfl) cg0 (fun a=>by kernel_rfl)
theorem zar2:SG ZP sg 252 @zaco:=conE good Tryz.func252 (by kernel_rfl) (by kernel_rfl) (cgc z5p cg0) (fun a=>by kernel_rfl)
theorem z56:SG ZP sg 253 @zabw:=conE good Tryz.func253 (by kernel_rfl) (by kernel_rfl) cg0 (fun a=>by kernel_rfl)
theorem zal1:fnB ZP 300 Tryz.f300 [2]=true:=by kernel_rfl
theorem zajr:CG ZP sg @zad8:=(cgc z56 cg0)
theorem zagf:zaf ZP sg 0 Tryz.f300 @zsz 2:=zas zye good Tryz.func300 zal1 zajr zaa (fun a=>by kernel_rfl) (by kernel_rfl) (fun _ _=>rfl)
theorem zapv:SG ZP sg 300 @zav7:=conD (loops:=zsz) good Tryz.func300 zal1 (by kernel_rfl) zajr (all_cons zagf zaa) (fun a=>by kernel_rfl)
theorem zarz:SG ZP sg 254 @zacm:=conE good Tryz.func254 (by kernel_rfl) (by kernel_rfl) (cgc z56 (cgc zapv cg0)) (fun a=>by kernel_rfl)
theorem zald:fnB ZP 171 Tryz.f171 [4]=true:=by kernel_rfl
theorem za07:CG ZP sg @zapd:=(cgc zar2 (cgc zarz cg0))
theorem zauz:zaf ZP sg 0 Tryz.f171 @z0b 4:=zas z8r good Tryz.func171 zald za07 zaa (fun a=>by kernel_rfl) (by kernel_rfl) (fun _ _=>rfl)
theorem za1s:SG ZP sg 171 @zaob:=conD (loops:=z0b) good Tryz.func171 zald (by kernel_rfl) za07 (all_cons zauz zaa) (fun a=>by kernel_rfl)
theorem zu7:SG ZP sg 257 @zab8:=conE good Tryz.func257 (by kernel_rfl) (by kernel_rfl) cg0 (fun a=>by kernel_rfl)
theorem z50:SG ZP sg 256 @zabn:=conE good Tryz.func256 (by kernel_rfl) (by kernel_rfl) (cgc zu7 cg0) (fun a=>by kernel_rfl)
theorem zal2:fnB ZP 301 Tryz.f301 [2]=true:=by kernel_rfl
theorem zajs:CG ZP sg @zad9:=(cgc z50 cg0)
theorem zagg:zaf ZP sg 0 Tryz.f301 @zs0 2:=zas zyf good Tryz.func301 zal2 zajs zaa (fun a=>by kernel_rfl) (by kernel_rfl) (fun _ _=>rfl)
theorem zapw:SG ZP sg 301 @zav8:=conD (loops:=zs0) good Tryz.func301 zal2 (by kernel_rfl) zajs (all_cons zagg zaa) (fun a=>by kernel_rfl)
theorem zar0:SG ZP sg 255 @zacn:=conE good Tryz.func255 (by kernel_rfl) (by kernel_rfl) (cgc z50 (cgc zapw cg0)) (fun a=>by kernel_rfl)
theorem zale:fnB ZP 172 Tryz.f172 [8]=true:=by kernel_rfl
theorem za06:CG ZP sg @zapb:=(cgc zar0 cg0)
theorem zaux:zaf ZP sg 0 Tryz.f172 @z0a 8:=zas z8o good Tryz.func172 zale za06 zaa (fun a=>by kernel_rfl) (by kernel_rfl) (fun _ _=>rfl)
theorem zakv:SG ZP sg 172 @zan9:=conD (loops:=z0a) good Tryz.func172 zale (by kernel_rfl) za06 (all_cons zaux zaa) (fun a=>by kernel_rfl)
theorem zafy:fnB ZP 64 Tryz.f64 [4,12,18]=true:=by kernel_rfl
theorem zafh:CG ZP sg @zao7:=(cgc zpg (cgc z5i (cgc z5v (cgc zaks (cgc z5w (cgc za1s (cgc zakv cg0)))))))
theorem zaut:zaf ZP sg 0 Tryz.f64 @zjg 4:=zas z8k good Tryz.func64 zafy zafh zaa (fun a=>by kernel_rfl) (by kernel_rfl) (fun _ _=>rfl)
theorem zahs:zaf ZP sg 0 Tryz.f64 @zjg 12:=zas zzs good Tryz.func64 zafy zafh zaa (fun a=>by kernel_rfl) (by kernel_rfl) (fun _ _=>rfl)
theorem zaht:zaf ZP sg 0 Tryz.f64 @zjg 18:=zas zzt good Tryz.func64 zafy zafh zaa (fun a=>by kernel_rfl) (by kernel_rfl) (fun _ _=>rfl)
theorem za1o:SG ZP sg 64 @za4r:=conD (loops:=zjg) good Tryz.func64 zafy (by kernel_rfl) zafh (all_cons zaut (all_cons zahs (all_cons zaht zaa))) (fun a=>by kernel_rfl)
theorem zaq3:SG ZP sg 265 @zabo:=conE good Tryz.func265 (by kernel_rfl) (by kernel_rfl) cg0 (fun a=>by kernel_rfl)
theorem zx4:fnB ZP 185 Tryz.f185 [2]=true:=by kernel_rfl
theorem za04:CG ZP sg @zao4:=(cgc zaq3 cg0)
theorem zaup:zaf ZP sg 0 Tryz.f185 @zz8 2:=zas z8e good Tryz.func185 zx4 za04 zaa (fun a=>by kernel_rfl) (by kernel_rfl) (fun _ _=>rfl)
theorem za1l:SG ZP sg 185 @za4o:=conD (loops:=zz8) good Tryz.func185 zx4 (by kernel_rfl) za04 (all_cons zaup zaa) (fun a=>by kernel_rfl)
theorem z5q:SG ZP sg 184 @zawq:=conE good Tryz.func184 (by kernel_rfl) (by kernel_rfl) (cgc za1l cg0) (fun a=>by kernel_rfl)
theorem zka:SG ZP sg 90 @zaxj:=conE good Tryz.func90 (by kernel_rfl) (by kernel_rfl) (cgc z5q cg0) (fun a=>by kernel_rfl)
theorem zaq6:SG ZP sg 173 @zabt:=conE good Tryz.func173 (by kernel_rfl) (by kernel_rfl) (cgc zka cg0) (fun a=>by kernel_rfl)
theorem zafz:fnB ZP 65 Tryz.f65 [3,9,15]=true:=by kernel_rfl
theorem zafe:CG ZP sg @zaox:=(cgc zgo (cgc zaq6 cg0))
theorem zauh:zaf ZP sg 0 Tryz.f65 @zjd 3:=zas z73 good Tryz.func65 zafz zafe zaa (fun a=>by kernel_rfl) (by kernel_rfl) (fun _ _=>rfl)
theorem zaui:zaf ZP sg 0 Tryz.f65 @zjd 9:=zas z74 good Tryz.func65 zafz zafe zaa (fun a=>by kernel_rfl) (by kernel_rfl) (fun _ _=>rfl)
theorem zahq:zaf ZP sg 0 Tryz.f65 @zjd 15:=zas zzp good Tryz.func65 zafz zafe zaa (fun a=>by kernel_rfl) (by kernel_rfl) (fun _ _=>rfl)
theorem za1g:SG ZP sg 65 @za4m:=conD (loops:=zjd) good Tryz.func65 zafz (by kernel_rfl) zafe (all_cons zauh (all_cons zaui (all_cons zahq zaa))) (fun a=>by kernel_rfl)
theorem zj7:SG ZP sg 165 @zav9:=conE good Tryz.func165 (by kernel_rfl) (by kernel_rfl) cg0 (fun a=>by kernel_rfl)
theorem z51:SG ZP sg 243 @zabs:=conE good Tryz.func243 (by kernel_rfl) (by kernel_rfl) cg0 (fun a=>by kernel_rfl)
theorem zx5:fnB ZP 242 Tryz.f242 [2]=true:=by kernel_rfl
theorem za03:CG ZP sg @zao2:=(cgc z51 cg0)
theorem zaun:zaf ZP sg 0 Tryz.f242 @zz7 2:=zas z8c good Tryz.func242 zx5 za03 zaa (fun a=>by kernel_rfl) (by kernel_rfl) (fun _ _=>rfl)
theorem za1j:SG ZP sg 242 @za4n:=conD (loops:=zz7) good Tryz.func242 zx5 (by kernel_rfl) za03 (all_cons zaun zaa) (fun a=>by kernel_rfl)
theorem zj9:SG ZP sg 164 @zaw0:=conE good Tryz.func164 (by kernel_rfl) (by kernel_rfl) (cgc za1j (cgc z51 cg0)) (fun a=>by kernel_rfl)
theorem zu3:SG ZP sg 59 @zw0:=conE good Tryz.func59 (by kernel_rfl) (by kernel_rfl) (cgc zj9 (cgc zj7 cg0)) (fun a=>by kernel_rfl)
theorem za15:fnB ZP 66 Tryz.f66 [2]=true:=by kernel_rfl
theorem zaki:CG ZP sg @zae5:=(cgc zu3 cg0)
theorem zahc:zaf ZP sg 0 Tryz.f66 @ztr 2:=zas zzb good Tryz.func66 za15 zaki zaa (fun a=>by kernel_rfl) (by kernel_rfl) (fun _ _=>rfl)
theorem zaqs:SG ZP sg 66 @zaw2:=conD (loops:=ztr) good Tryz.func66 za15 (by kernel_rfl) zaki (all_cons zahc zaa) (fun a=>by kernel_rfl)
theorem zaq0:SG ZP sg 197 @zabk:=conE good Tryz.func197 (by kernel_rfl) (by kernel_rfl) cg0 (fun a=>by kernel_rfl)
theorem zmy:fnB ZP 99 Tryz.f99 [2]=true:=by kernel_rfl
theorem za0y:CG ZP sg @zaot:=(cgc zaq0 cg0)
theorem zaud:zaf ZP sg 0 Tryz.f99 @zz2 2:=zas z7w good Tryz.func99 zmy za0y zaa (fun a=>by kernel_rfl) (by kernel_rfl) (fun _ _=>rfl)
theorem za1b:SG ZP sg 99 @za4j:=conD (loops:=zz2) good Tryz.func99 zmy (by kernel_rfl) za0y (all_cons zaud zaa) (fun a=>by kernel_rfl)
theorem zu0:SG ZP sg 96 @zabc:=conE good Tryz.func96 (by kernel_rfl) (by kernel_rfl) (cgc za1b cg0) (fun a=>by kernel_rfl)
theorem zatp:fnB ZP 67 Tryz.f67 [2,16]=true:=by kernel_rfl
theorem z47:CG ZP sg @zaee:=(cgc zgo (cgc zu0 cg0))
theorem zagm:zaf ZP sg 0 Tryz.f67 @zk1 2:=zas zyl good Tryz.func67 zatp z47 zaa (fun a=>by kernel_rfl) (by kernel_rfl) (fun _ _=>rfl)
theorem z8y:zaf ZP sg 0 Tryz.f67 @zk1 16:=zas zsk good Tryz.func67 zatp z47 zaa (fun a=>by kernel_rfl) (by kernel_rfl) (fun _ _=>rfl)
theorem zap1:SG ZP sg 67 @zawb:=conD (loops:=zk1) good Tryz.func67 zatp (by kernel_rfl) z47 (all_cons zagm (all_cons z8y zaa)) (fun a=>by kernel_rfl)
theorem z6l:SG ZP sg 20 @zax5:=conE good Tryz.func20 (by kernel_rfl) (by kernel_rfl) (cgc zpg (cgc za1p (cgc za1o (cgc za1g (cgc zaqs (cgc zap1 cg0)))))) (fun a=>by kernel_rfl)
theorem zap5:SG ZP sg 23 @zawg:=conE good Tryz.func23 (by kernel_rfl) (by kernel_rfl) (cgc z6l (cgc zgo (cgc z6p (cgc z6n (cgc (sgP zar5) (cgc z55 cg0)))))) (fun a=>by kernel_rfl)
theorem zark:SG ZP sg 186 @zaca:=conE good Tryz.func186 (by kernel_rfl) (by kernel_rfl) cg0 (fun a=>by kernel_rfl)
theorem zx0:CG ZP sg @z09:=(cgc zark cg0)
theorem z2e:zaf ZP sg 0 Tryz.f185 @zlb 2:=zas zn1 good Tryz.func185 zx4 zx0 zaa (fun a=>by kernel_rfl) (by kernel_rfl) (fun _ _=>rfl)
theorem z6v:SG ZP sg 185 @zac1:=conD (loops:=zlb) good Tryz.func185 zx4 (by kernel_rfl) zx0 (all_cons z2e zaa) (fun a=>by kernel_rfl)
theorem zar3:SG ZP sg 189 @zax9:=conS (loops:=l0) (ids:=[]) good Tryz.func189 (by kernel_rfl) (by kernel_rfl) cg0 zaa (fun a=>by kernel_rfl) (by kernel_rfl)
theorem zar8:SG ZP sg 187 @zaya:=conE good Tryz.func187 (by kernel_rfl) (by kernel_rfl) (cgc z5i cg0) (fun a=>by kernel_rfl)
theorem zaqg:SG ZP sg 86 @zawr:=conE good Tryz.func86 (by kernel_rfl) (by kernel_rfl) (cgc z5q (cgc z6v (cgc zar8 (cgc (sgP zarh) (cgc zar3 cg0))))) (fun a=>by kernel_rfl)
theorem zart:SG ZP sg 25 @zax2:=conE good Tryz.func25 (by kernel_rfl) (by kernel_rfl) (cgc zaqg cg0) (fun a=>by kernel_rfl)
theorem zasa:SG ZP sg 60 @zayb:=conE good Tryz.func60 (by kernel_rfl) (by kernel_rfl) (cgc zasf (cgc zap5 (cgc zart cg0))) (fun a=>by kernel_rfl)
theorem zhy:SG ZP sg 88 @zaxf:=conN (loops:=l0) (ids:=[]) good Tryz.func88 (by kernel_rfl) (by kernel_rfl) cg0 zaa (fun a=>by kernel_rfl)
theorem zik:SG ZP sg 91 @za4t:=conM (loops:=l0) (ids:=[]) good Tryz.func91 (by kernel_rfl) (by kernel_rfl) cg0 zaa (fun a b=>by kernel_rfl)
theorem zvd:SG ZP sg 89 @zax0:=conM (loops:=l0) (ids:=[]) good Tryz.func89 (by kernel_rfl) (by kernel_rfl) (cgc zgo (cgc zik cg0)) zaa (fun a b=>by kernel_rfl)
theorem zarq:SG ZP sg 192 @zaxu:=conS (loops:=l0) (ids:=[]) good Tryz.func192 (by kernel_rfl) (by kernel_rfl) cg0 zaa (fun a=>by kernel_rfl) (by kernel_rfl)
theorem zgp:SG ZP sg 93 @zawx:=conM (loops:=l0) (ids:=[]) good Tryz.func93 (by kernel_rfl) (by kernel_rfl) (cgc z55 (cgc zik (cgc z6q (cgc zarq cg0)))) zaa (fun a b=>by kernel_rfl)
theorem zuz:SG ZP sg 222 @zwy:=conE good Tryz.func222 (by kernel_rfl) (by kernel_rfl) cg0 (fun a=>by kernel_rfl)
theorem z69:fnB ZP 316 Tryz.f316 [1,4]=true:=by kernel_rfl
theorem zapi:CG ZP sg @zao6:=(cgc zuz cg0)
theorem z85:zaf ZP sg MA Tryz.f316 @zqm 4:=zas z8j good Tryz.func316 z69 zapi zaa (fun a=>by kernel_rfl) (by kernel_rfl) (fun _ _=>rfl)
theorem zaus:zaf ZP sg MA Tryz.f316 @zqm 1:=zas z8i good Tryz.func316 z69 zapi (all_cons z85 zaa) (fun a=>by kernel_rfl) (by kernel_rfl) (fun _ _=>rfl)
theorem za1n:SG ZP sg 316 @zan7:=conI (loops:=zqm) good Tryz.func316 z69 (by kernel_rfl) zapi (all_cons zaus (all_cons z85 zaa)) (fun a=>by kernel_rfl)
theorem zx6:fnB ZP 291 Tryz.f291 [2,7,9]=true:=by kernel_rfl
theorem zafg:CG ZP sg @zao5:=(cgc zuz (cgc za1n (cgc (sgP zaq2) cg0)))
theorem zauq:zaf ZP sg MA Tryz.f291 @zjf 2:=zas z8f good Tryz.func291 zx6 zafg zaa (fun a=>by kernel_rfl) (by kernel_rfl) (fun _ _=>rfl)
theorem z84:zaf ZP sg MA Tryz.f291 @zjf 9:=zas z8h good Tryz.func291 zx6 zafg zaa (fun a=>by kernel_rfl) (by kernel_rfl) (fun _ _=>rfl)
theorem zaur:zaf ZP sg MA Tryz.f291 @zjf 7:=zas z8g good Tryz.func291 zx6 zafg (all_cons z84 zaa) (fun a=>by kernel_rfl) (by kernel_rfl) (fun _ _=>rfl)
theorem za1m:SG ZP sg 291 @za4q:=conI (loops:=zjf) good Tryz.func291 zx6 (by kernel_rfl) zafg (all_cons zauq (all_cons zaur (all_cons z84 zaa))) (fun a=>by kernel_rfl)
theorem zarg:SG ZP sg 221 @zab6:=conI (loops:=l0) (ids:=[]) good Tryz.func221 (by kernel_rfl) (by kernel_rfl) (cgc zuz (cgc za1m cg0)) zaa (fun a=>by kernel_rfl)
theorem zak6:fnB ZP 135 Tryz.f135 [3]=true:=by kernel_rfl
theorem za00:CG ZP sg @zaoy:=(cgc zarg cg0)
theorem zauj:zaf ZP sg 0 Tryz.f135 @zz4 3:=zas z77 good Tryz.func135 zak6 za00 zaa (fun a=>by kernel_rfl) (by kernel_rfl) (fun _ _=>rfl)
theorem za1h:SG ZP sg 135 @zan3:=conD (loops:=zz4) good Tryz.func135 zak6 (by kernel_rfl) za00 (all_cons zauj zaa) (fun a=>by kernel_rfl)
theorem za12:fnB ZP 35 Tryz.f35 [3]=true:=by kernel_rfl
theorem zakb:CG ZP sg @zaey:=(cgc za1h cg0)
theorem zag5:zaf ZP sg 0 Tryz.f35 @ztk 3:=zas zy4 good Tryz.func35 za12 zakb zaa (fun a=>by kernel_rfl) (by kernel_rfl) (fun _ _=>rfl)
theorem zaqk:SG ZP sg 35 @zawu:=conD (loops:=ztk) good Tryz.func35 za12 (by kernel_rfl) zakb (all_cons zag5 zaa) (fun a=>by kernel_rfl)
theorem zva:SG ZP sg 156 @zacg:=conE good Tryz.func156 (by kernel_rfl) (by kernel_rfl) (cgc zaqk cg0) (fun a=>by kernel_rfl)
theorem zasb:SG ZP sg 289 @zact:=conE good Tryz.func289 (by kernel_rfl) (by kernel_rfl) cg0 (fun a=>by kernel_rfl)
theorem zxt:CG ZP sg @z01:=(cgc zasb cg0)
theorem z16:zaf ZP sg 0 Tryz.f99 @zk4 2:=zas zns good Tryz.func99 zmy zxt zaa (fun a=>by kernel_rfl) (by kernel_rfl) (fun _ _=>rfl)
theorem z5r:SG ZP sg 99 @zaa8:=conD (loops:=zk4) good Tryz.func99 zmy (by kernel_rfl) zxt (all_cons z16 zaa) (fun a=>by kernel_rfl)
theorem zu2:SG ZP sg 217 @zawt:=conE good Tryz.func217 (by kernel_rfl) (by kernel_rfl) (cgc z5r cg0) (fun a=>by kernel_rfl)
theorem zu6:SG ZP sg 128 @zaxr:=conE good Tryz.func128 (by kernel_rfl) (by kernel_rfl) (cgc zu2 cg0) (fun a=>by kernel_rfl)
theorem zars:SG ZP sg 137 @zax1:=conM (loops:=l0) (ids:=[]) good Tryz.func137 (by kernel_rfl) (by kernel_rfl) (cgc zgp cg0) zaa (fun a b=>by kernel_rfl)
theorem zash:SG ZP sg 337 @zayi:=conE good Tryz.func337 (by kernel_rfl) (by kernel_rfl) cg0 (fun a=>by kernel_rfl)
theorem zaqj:SG ZP sg 311 @zaa7:=conE good Tryz.func311 (by kernel_rfl) (by kernel_rfl) (cgc zash cg0) (fun a=>by kernel_rfl)
theorem zal4:fnB ZP 312 Tryz.f312 [3]=true:=by kernel_rfl
theorem zakd:CG ZP sg @zae0:=cg0
theorem zag7:zaf ZP sg 0 Tryz.f312 @ztm 3:=zas zy6 good Tryz.func312 zal4 zakd zaa (fun a=>by kernel_rfl) (by kernel_rfl) (fun _ _=>rfl)
theorem zaqm:SG ZP sg 312 @zabf:=conD (loops:=ztm) good Tryz.func312 zal4 (by kernel_rfl) zakd (all_cons zag7 zaa) (fun a=>by kernel_rfl)
theorem zalz:fnB ZP 287 Tryz.f287 [3]=true:=by kernel_rfl
theorem zaj6:CG ZP sg @zaet:=(cgc zaqj (cgc zaqm cg0))
theorem zag0:zaf ZP sg 0 Tryz.f287 @ztf 3:=zas zyz good Tryz.func287 zalz zaj6 zaa (fun a=>by kernel_rfl) (by kernel_rfl) (fun _ _=>rfl)
theorem zaqb:SG ZP sg 287 @zawk:=conD (loops:=ztf) good Tryz.func287 zalz (by kernel_rfl) zaj6 (all_cons zag0 zaa) (fun a=>by kernel_rfl)
theorem zarl:SG ZP sg 211 @zaxs:=conE good Tryz.func211 (by kernel_rfl) (by kernel_rfl) (cgc zaqb cg0) (fun a=>by kernel_rfl)
theorem zhx:SG ZP sg 118 @zaxd:=conE good Tryz.func118 (by kernel_rfl) (by kernel_rfl) (cgc zka (cgc zarl cg0)) (fun a=>by kernel_rfl)
theorem zpj:SG ZP sg 120 @zaxg:=conE good Tryz.func120 (by kernel_rfl) (by kernel_rfl) (cgc zpg cg0) (fun a=>by kernel_rfl)
theorem zass:SG ZP sg 345 @zays:=conE good Tryz.func345 (by kernel_rfl) (by kernel_rfl) cg0 (fun a=>by kernel_rfl)
theorem zasu:SG ZP sg 324 @zacw:=conE good Tryz.func324 (by kernel_rfl) (by kernel_rfl) (cgc zass cg0) (fun a=>by kernel_rfl)
theorem zasg:SG ZP sg 349 @zacu:=conE good Tryz.func349 (by kernel_rfl) (by kernel_rfl) cg0 (fun a=>by kernel_rfl)
theorem zal5:fnB ZP 334 Tryz.f334 [3]=true:=by kernel_rfl
theorem zajl:CG ZP sg @zad2:=(cgc zasu (cgc zasg cg0))
theorem zaf9:zaf ZP sg 0 Tryz.f334 @zst 3:=zas zx8 good Tryz.func334 zal5 zajl zaa (fun a=>by kernel_rfl) (by kernel_rfl) (fun _ _=>rfl)
theorem zapr:SG ZP sg 334 @zav3:=conD (loops:=zst) good Tryz.func334 zal5 (by kernel_rfl) zajl (all_cons zaf9 zaa) (fun a=>by kernel_rfl)
theorem zal3:fnB ZP 308 Tryz.f308 [3]=true:=by kernel_rfl
theorem zaj5:CG ZP sg @zaes:=cg0
theorem zagz:zaf ZP sg 0 Tryz.f308 @zte 3:=zas zyy good Tryz.func308 zal3 zaj5 zaa (fun a=>by kernel_rfl) (by kernel_rfl) (fun _ _=>rfl)
theorem z5o:SG ZP sg 308 @zaa5:=conD (loops:=zte) good Tryz.func308 zal3 (by kernel_rfl) zaj5 (all_cons zagz zaa) (fun a=>by kernel_rfl)
theorem zatb:SG ZP sg 336 @zay7:=conE good Tryz.func336 (by kernel_rfl) (by kernel_rfl) cg0 (fun a=>by kernel_rfl)
theorem zu8:SG ZP sg 310 @zacb:=conE good Tryz.func310 (by kernel_rfl) (by kernel_rfl) (cgc zatb cg0) (fun a=>by kernel_rfl)
theorem z52:SG ZP sg 304 @zw1:=conE good Tryz.func304 (by kernel_rfl) (by kernel_rfl) (cgc zu7 (cgc z5o (cgc zu8 (cgc zapr cg0)))) (fun a=>by kernel_rfl)
theorem zalu:fnB ZP 269 Tryz.f269 [2]=true:=by kernel_rfl
theorem zajn:CG ZP sg @zad4:=(cgc z52 cg0)
theorem zagb:zaf ZP sg 0 Tryz.f269 @zsv 2:=zas zya good Tryz.func269 zalu zajn zaa (fun a=>by kernel_rfl) (by kernel_rfl) (fun _ _=>rfl)
theorem z5g:SG ZP sg 269 @zaau:=conD (loops:=zsv) good Tryz.func269 zalu (by kernel_rfl) zajn (all_cons zagb zaa) (fun a=>by kernel_rfl)
theorem zalp:fnB ZP 218 Tryz.f218 [9]=true:=by kernel_rfl
theorem zaj4:CG ZP sg @zaer:=(cgc zu7 (cgc z5g cg0))
theorem zagy:zaf ZP sg 0 Tryz.f218 @ztd 9:=zas zyx good Tryz.func218 zalp zaj4 zaa (fun a=>by kernel_rfl) (by kernel_rfl) (fun _ _=>rfl)
theorem zaqa:SG ZP sg 218 @zawj:=conD (loops:=ztd) good Tryz.func218 zalp (by kernel_rfl) zaj4 (all_cons zagy zaa) (fun a=>by kernel_rfl)
theorem z6t:SG ZP sg 130 @zayh:=conM (loops:=l0) (ids:=[]) good Tryz.func130 (by kernel_rfl) (by kernel_rfl) (cgc zik (cgc zpj (cgc zaqa cg0))) zaa (fun a b=>by kernel_rfl)
theorem z58:SG ZP sg 285 @zabx:=conE good Tryz.func285 (by kernel_rfl) (by kernel_rfl) cg0 (fun a=>by kernel_rfl)
theorem zxu:CG ZP sg @z02:=(cgc z58 cg0)
theorem z17:zaf ZP sg 0 Tryz.f99 @zk5 2:=zas znt good Tryz.func99 zmy zxu zaa (fun a=>by kernel_rfl) (by kernel_rfl) (fun _ _=>rfl)
theorem z5s:SG ZP sg 99 @zaa9:=conD (loops:=zk5) good Tryz.func99 zmy (by kernel_rfl) zxu (all_cons z17 zaa) (fun a=>by kernel_rfl)
theorem zaq9:SG ZP sg 117 @zaxn:=conE good Tryz.func117 (by kernel_rfl) (by kernel_rfl) (cgc z5s (cgc z58 cg0)) (fun a=>by kernel_rfl)
theorem zvc:SG ZP sg 225 @zaxw:=conS (loops:=l0) (ids:=[]) good Tryz.func225 (by kernel_rfl) (by kernel_rfl) cg0 zaa (fun a=>by kernel_rfl) (by kernel_rfl)
theorem zarx:SG ZP sg 228 @zax7:=conE good Tryz.func228 (by kernel_rfl) (by kernel_rfl) (cgc zvc cg0) (fun a=>by kernel_rfl)
theorem z5m:SG ZP sg 205 @zawh:=conE good Tryz.func205 (by kernel_rfl) (by kernel_rfl) (cgc zaq9 (cgc zu2 (cgc zarx (cgc zu5 cg0)))) (fun a=>by kernel_rfl)
theorem zpl:SG ZP sg 139 @zaxi:=conM (loops:=l0) (ids:=[]) good Tryz.func139 (by kernel_rfl) (by kernel_rfl) (cgc zik cg0) zaa (fun a b=>by kernel_rfl)
theorem z6h:SG ZP sg 109 @zaxy:=conM (loops:=l0) (ids:=[]) good Tryz.func109 (by kernel_rfl) (by kernel_rfl) (cgc zgp (cgc zhx (cgc z6t (cgc zpl (cgc z5m cg0))))) zaa (fun a b=>by kernel_rfl)
theorem zu4:SG ZP sg 110 @zabm:=conM (loops:=l0) (ids:=[]) good Tryz.func110 (by kernel_rfl) (by kernel_rfl) (cgc zgp (cgc z6h (cgc zu6 (cgc zars (cgc zpl (cgc zva (cgc z5m cg0))))))) zaa (fun a b=>by kernel_rfl)
theorem zap0:SG ZP sg 136 @zawa:=conM (loops:=l0) (ids:=[]) good Tryz.func136 (by kernel_rfl) (by kernel_rfl) cg0 zaa (fun a b=>by kernel_rfl)
theorem zaq1:SG ZP sg 36 @zaxa:=conE good Tryz.func36 (by kernel_rfl) (by kernel_rfl) (cgc zhy (cgc zvd (cgc zgp (cgc zu4 (cgc zap0 cg0))))) (fun a=>by kernel_rfl)
theorem za13:fnB ZP 45 Tryz.f45 [3]=true:=by kernel_rfl
theorem zajq:CG ZP sg @zad7:=cg0
theorem zage:zaf ZP sg 0 Tryz.f45 @zsy 3:=zas zyd good Tryz.func45 za13 zajq zaa (fun a=>by kernel_rfl) (by kernel_rfl) (fun _ _=>rfl)
theorem z5h:SG ZP sg 45 @zav6:=conD (loops:=zsy) good Tryz.func45 za13 (by kernel_rfl) zajq (all_cons zage zaa) (fun a=>by kernel_rfl)
theorem zalj:fnB ZP 190 Tryz.f190 [3]=true:=by kernel_rfl
theorem za0x:CG ZP sg @zaoq:=cg0
theorem zat9:zaf ZP sg 0 Tryz.f190 @zz1 3:=zas z7r good Tryz.func190 zalj za0x zaa (fun a=>by kernel_rfl) (by kernel_rfl) (fun _ _=>rfl)
theorem z5f:SG ZP sg 190 @zaat:=conD (loops:=zz1) good Tryz.func190 zalj (by kernel_rfl) za0x (all_cons zat9 zaa) (fun a=>by kernel_rfl)
theorem zalo:fnB ZP 210 Tryz.f210 [3]=true:=by kernel_rfl
theorem zaj7:CG ZP sg @zaeu:=(cgc z5f cg0)
theorem zag1:zaf ZP sg 0 Tryz.f210 @ztg 3:=zas zy0 good Tryz.func210 zalo zaj7 zaa (fun a=>by kernel_rfl) (by kernel_rfl) (fun _ _=>rfl)
theorem zaqc:SG ZP sg 210 @zawl:=conD (loops:=ztg) good Tryz.func210 zalo (by kernel_rfl) zaj7 (all_cons zag1 zaa) (fun a=>by kernel_rfl)
theorem zaln:fnB ZP 209 Tryz.f209 [3]=true:=by kernel_rfl
theorem zakc:CG ZP sg @zaez:=cg0
theorem zag6:zaf ZP sg 0 Tryz.f209 @ztl 3:=zas zy5 good Tryz.func209 zaln zakc zaa (fun a=>by kernel_rfl) (by kernel_rfl) (fun _ _=>rfl)
theorem zaql:SG ZP sg 209 @zaww:=conD (loops:=ztl) good Tryz.func209 zaln (by kernel_rfl) zakc (all_cons zag6 zaa) (fun a=>by kernel_rfl)
theorem zu9:SG ZP sg 115 @zacc:=conE good Tryz.func115 (by kernel_rfl) (by kernel_rfl) (cgc z5h (cgc zaql (cgc zaqc cg0))) (fun a=>by kernel_rfl)
theorem zalv:fnB ZP 270 Tryz.f270 [2]=true:=by kernel_rfl
theorem zakk:CG ZP sg @zae7:=(cgc z52 cg0)
theorem zahe:zaf ZP sg 0 Tryz.f270 @ztt 2:=zas zzd good Tryz.func270 zalv zakk zaa (fun a=>by kernel_rfl) (by kernel_rfl) (fun _ _=>rfl)
theorem zaqu:SG ZP sg 270 @zaw4:=conD (loops:=ztt) good Tryz.func270 zalv (by kernel_rfl) zakk (all_cons zahe zaa) (fun a=>by kernel_rfl)
theorem z5y:SG ZP sg 191 @zaxb:=conE good Tryz.func191 (by kernel_rfl) (by kernel_rfl) (cgc z5p (cgc z5g (cgc zaqu cg0))) (fun a=>by kernel_rfl)
theorem zask:SG ZP sg 92 @zayk:=conE good Tryz.func92 (by kernel_rfl) (by kernel_rfl) (cgc zu9 (cgc zhx (cgc zpj (cgc zu6 (cgc zva (cgc z5f (cgc z5y cg0))))))) (fun a=>by kernel_rfl)
theorem z6a:SG ZP sg 193 @zabz:=conE good Tryz.func193 (by kernel_rfl) (by kernel_rfl) cg0 (fun a=>by kernel_rfl)
theorem zxz:CG ZP sg @z08:=(cgc z6a cg0)
theorem z2d:zaf ZP sg 0 Tryz.f242 @zla 2:=zas zn0 good Tryz.func242 zx5 zxz zaa (fun a=>by kernel_rfl) (by kernel_rfl) (fun _ _=>rfl)
theorem z6u:SG ZP sg 242 @zac0:=conD (loops:=zla) good Tryz.func242 zx5 (by kernel_rfl) zxz (all_cons z2d zaa) (fun a=>by kernel_rfl)
theorem z1g:SG ZP sg 164 @z3o:=conE good Tryz.func164 (by kernel_rfl) (by kernel_rfl) (cgc z6a (cgc z6u cg0)) (fun a=>by kernel_rfl)
theorem zvb:SG ZP sg 196 @zaxv:=conS (loops:=l0) (ids:=[]) good Tryz.func196 (by kernel_rfl) (by kernel_rfl) cg0 zaa (fun a=>by kernel_rfl) (by kernel_rfl)
theorem z57:SG ZP sg 194 @zaxm:=conE good Tryz.func194 (by kernel_rfl) (by kernel_rfl) (cgc z5v cg0) (fun a=>by kernel_rfl)
theorem zaqd:SG ZP sg 95 @zawm:=conE good Tryz.func95 (by kernel_rfl) (by kernel_rfl) (cgc (sgi (ac:=zaog) zj9 (sgi (ac:=zo1) z1g sg0)) (cgc zj7 (cgc z57 (cgc (sgP zar4) (cgc zvb cg0))))) (fun a=>by kernel_rfl)
theorem zpk:SG ZP sg 94 @zaxh:=conM (loops:=l0) (ids:=[]) good Tryz.func94 (by kernel_rfl) (by kernel_rfl) (cgc zik cg0) zaa (fun a b=>by kernel_rfl)
theorem zasl:SG ZP sg 198 @zayl:=conE good Tryz.func198 (by kernel_rfl) (by kernel_rfl) (cgc zu2 (cgc zvc (cgc (sgP zar7) cg0))) (fun a=>by kernel_rfl)
theorem zar1:SG ZP sg 97 @zax8:=conM (loops:=l0) (ids:=[]) good Tryz.func97 (by kernel_rfl) (by kernel_rfl) (cgc zpl (cgc zasl cg0)) zaa (fun a b=>by kernel_rfl)
theorem zj8:SG ZP sg 98 @zawv:=conM (loops:=l0) (ids:=[]) good Tryz.func98 (by kernel_rfl) (by kernel_rfl) cg0 zaa (fun a b=>by kernel_rfl)
theorem zpi:SG ZP sg 101 @zabu:=conE good Tryz.func101 (by kernel_rfl) (by kernel_rfl) cg0 (fun a=>by kernel_rfl)
theorem zarn:SG ZP sg 100 @zace:=conE good Tryz.func100 (by kernel_rfl) (by kernel_rfl) (cgc zpi cg0) (fun a=>by kernel_rfl)
theorem zxv:CG ZP sg @z03:=(cgc zarn cg0)
theorem z18:zaf ZP sg 0 Tryz.f99 @zk6 2:=zas znu good Tryz.func99 zmy zxv zaa (fun a=>by kernel_rfl) (by kernel_rfl) (fun _ _=>rfl)
theorem z5t:SG ZP sg 99 @zaba:=conD (loops:=zk6) good Tryz.func99 zmy (by kernel_rfl) zxv (all_cons z18 zaa) (fun a=>by kernel_rfl)
theorem zaqq:SG ZP sg 27 @zaw1:=conE good Tryz.func27 (by kernel_rfl) (by kernel_rfl) (cgc zhy (cgc zvd (cgc zka (cgc zik (cgc zask (cgc zgp (cgc zpk (cgc zaqd (cgc zu0 (cgc zar1 (cgc zj8 (cgc z5t cg0)))))))))))) (fun a=>by kernel_rfl)
theorem zasm:SG ZP sg 224 @zaym:=conE good Tryz.func224 (by kernel_rfl) (by kernel_rfl) cg0 (fun a=>by kernel_rfl)
theorem zaq4:SG ZP sg 223 @zabp:=conE good Tryz.func223 (by kernel_rfl) (by kernel_rfl) (cgc zpi (cgc zasm cg0)) (fun a=>by kernel_rfl)
theorem zxy:CG ZP sg @z07:=(cgc zaq4 cg0)
theorem z2c:zaf ZP sg 0 Tryz.f80 @zk9 2:=zas znz good Tryz.func80 z1r zxy zaa (fun a=>by kernel_rfl) (by kernel_rfl) (fun _ _=>rfl)
theorem z6o:SG ZP sg 80 @zud:=conD (loops:=zk9) good Tryz.func80 z1r (by kernel_rfl) zxy (all_cons z2c zaa) (fun a=>by kernel_rfl)
theorem zak7:fnB ZP 138 Tryz.f138 [9]=true:=by kernel_rfl
theorem za05:CG ZP sg @zapa:=(cgc zgo (cgc z6o (cgc zu9 (cgc z5f cg0))))
theorem zauw:zaf ZP sg 0 Tryz.f138 @zz9 9:=zas z8n good Tryz.func138 zak7 za05 zaa (fun a=>by kernel_rfl) (by kernel_rfl) (fun _ _=>rfl)
theorem za1q:SG ZP sg 138 @za4u:=conD (loops:=zz9) good Tryz.func138 zak7 (by kernel_rfl) za05 (all_cons zauw zaa) (fun a=>by kernel_rfl)
theorem zasd:SG ZP sg 140 @zayc:=conE good Tryz.func140 (by kernel_rfl) (by kernel_rfl) (cgc zaks (cgc zvc cg0)) (fun a=>by kernel_rfl)
theorem zak8:fnB ZP 141 Tryz.f141 [1]=true:=by kernel_rfl
theorem zakj:CG ZP sg @zae6:=(cgc zu4 (cgc zva cg0))
theorem zahd:zaf ZP sg 1 Tryz.f141 @zts 1:=zas zzc good Tryz.func141 zak8 zakj zaa (fun a=>by kernel_rfl) (by kernel_rfl) (fun _ _=>rfl)
theorem zaqt:SG ZP sg 141 @zaw3:=conM (loops:=zts) good Tryz.func141 zak8 (by kernel_rfl) zakj (all_cons zahd zaa) (fun a b=>by kernel_rfl)
theorem zare:SG ZP sg 40 @zaxq:=conE good Tryz.func40 (by kernel_rfl) (by kernel_rfl) (cgc zhy (cgc zka (cgc zj8 (cgc zhx (cgc za1q (cgc zpl (cgc zasd (cgc zaqt cg0)))))))) (fun a=>by kernel_rfl)
theorem z59:SG ZP sg 116 @zaby:=conE good Tryz.func116 (by kernel_rfl) (by kernel_rfl) (cgc zpi cg0) (fun a=>by kernel_rfl)
theorem zxw:CG ZP sg @z04:=(cgc z59 cg0)
theorem z19:zaf ZP sg 0 Tryz.f99 @zk7 2:=zas znv good Tryz.func99 zmy zxw zaa (fun a=>by kernel_rfl) (by kernel_rfl) (fun _ _=>rfl)
theorem z5u:SG ZP sg 99 @zabb:=conD (loops:=zk7) good Tryz.func99 zmy (by kernel_rfl) zxw (all_cons z19 zaa) (fun a=>by kernel_rfl)
theorem z1h:SG ZP sg 117 @z3p:=conE good Tryz.func117 (by kernel_rfl) (by kernel_rfl) (cgc z5u (cgc z59 cg0)) (fun a=>by kernel_rfl)
theorem zasj:SG ZP sg 119 @zayj:=conE good Tryz.func119 (by kernel_rfl) (by kernel_rfl) (cgc z5y cg0) (fun a=>by kernel_rfl)
theorem z6j:SG ZP sg 212 @zaxz:=conE good Tryz.func212 (by kernel_rfl) (by kernel_rfl) (cgc zvb cg0) (fun a=>by kernel_rfl)
theorem zata:SG ZP sg 121 @zay6:=conE good Tryz.func121 (by kernel_rfl) (by kernel_rfl) (cgc zj9 (cgc zj7 (cgc z57 (cgc z6j cg0)))) (fun a=>by kernel_rfl)
theorem zaqh:SG ZP sg 31 @zaws:=conE good Tryz.func31 (by kernel_rfl) (by kernel_rfl) (cgc zu3 (cgc zgo (cgc zhy (cgc zka (cgc zpk (cgc zj8 (cgc zu9 (cgc z1h (cgc zhx (cgc zasj (cgc zpj (cgc zata cg0)))))))))))) (fun a=>by kernel_rfl)
theorem zak3:fnB ZP 129 Tryz.f129 [2]=true:=by kernel_rfl
theorem zajm:CG ZP sg @zad3:=(cgc zu3 (cgc zpi cg0))
theorem zaga:zaf ZP sg 0 Tryz.f129 @zsu 2:=zas zx9 good Tryz.func129 zak3 zajm zaa (fun a=>by kernel_rfl) (by kernel_rfl) (fun _ _=>rfl)
theorem zaps:SG ZP sg 129 @zav4:=conD (loops:=zsu) good Tryz.func129 zak3 (by kernel_rfl) zajm (all_cons zaga zaa) (fun a=>by kernel_rfl)
theorem zas8:SG ZP sg 131 @zay4:=conE good Tryz.func131 (by kernel_rfl) (by kernel_rfl) (cgc zj9 (cgc zj7 (cgc z6j (cgc z6c cg0)))) (fun a=>by kernel_rfl)
theorem zas9:SG ZP sg 33 @zay5:=conE good Tryz.func33 (by kernel_rfl) (by kernel_rfl) (cgc zhy (cgc zpk (cgc zj8 (cgc zhx (cgc zu6 (cgc zaps (cgc z6t (cgc zas8 cg0)))))))) (fun a=>by kernel_rfl)
theorem zas0:SG ZP sg 234 @zayw:=conE good Tryz.func234 (by kernel_rfl) (by kernel_rfl) (cgc zvb (cgc (sgP zar6) cg0)) (fun a=>by kernel_rfl)
theorem zase:SG ZP sg 154 @zaye:=conE good Tryz.func154 (by kernel_rfl) (by kernel_rfl) (cgc zj9 (cgc zj7 (cgc zas0 cg0))) (fun a=>by kernel_rfl)
theorem zasi:SG ZP sg 309 @zacv:=conE good Tryz.func309 (by kernel_rfl) (by kernel_rfl) (cgc zu8 cg0) (fun a=>by kernel_rfl)
theorem z66:fnB ZP 281 Tryz.f281 [7,13]=true:=by kernel_rfl
theorem z48:CG ZP sg @zaef:=(cgc z5o (cgc zasi (cgc zu8 cg0)))
theorem zagn:zaf ZP sg 0 Tryz.f281 @zk2 7:=zas zym good Tryz.func281 z66 z48 zaa (fun a=>by kernel_rfl) (by kernel_rfl) (fun _ _=>rfl)
theorem z8z:zaf ZP sg 0 Tryz.f281 @zk2 13:=zas zsl good Tryz.func281 z66 z48 zaa (fun a=>by kernel_rfl) (by kernel_rfl) (fun _ _=>rfl)
theorem zap2:SG ZP sg 281 @zawc:=conD (loops:=zk2) good Tryz.func281 z66 (by kernel_rfl) z48 (all_cons zagn (all_cons z8z zaa)) (fun a=>by kernel_rfl)
theorem zate:SG ZP sg 203 @zaza:=conE good Tryz.func203 (by kernel_rfl) (by kernel_rfl) (cgc zakv (cgc z6r (cgc zap2 cg0))) (fun a=>by kernel_rfl)
theorem zaq8:SG ZP sg 226 @zaxk:=conE good Tryz.func226 (by kernel_rfl) (by kernel_rfl) (cgc z5w cg0) (fun a=>by kernel_rfl)
theorem zas1:SG ZP sg 149 @zayx:=conM (loops:=l0) (ids:=[]) good Tryz.func149 (by kernel_rfl) (by kernel_rfl) (cgc zik (cgc zaq8 cg0)) zaa (fun a b=>by kernel_rfl)
theorem zarj:SG ZP sg 283 @zab9:=conE good Tryz.func283 (by kernel_rfl) (by kernel_rfl) cg0 (fun a=>by kernel_rfl)
theorem zalx:fnB ZP 282 Tryz.f282 [2]=true:=by kernel_rfl
theorem zajo:CG ZP sg @zad5:=(cgc zarj cg0)
theorem zagc:zaf ZP sg 0 Tryz.f282 @zsw 2:=zas zyb good Tryz.func282 zalx zajo zaa (fun a=>by kernel_rfl) (by kernel_rfl) (fun _ _=>rfl)
theorem zapt:SG ZP sg 282 @zav5:=conD (loops:=zsw) good Tryz.func282 zalx (by kernel_rfl) zajo (all_cons zagc zaa) (fun a=>by kernel_rfl)
theorem zaqf:SG ZP sg 204 @zawp:=conE good Tryz.func204 (by kernel_rfl) (by kernel_rfl) (cgc zapt cg0) (fun a=>by kernel_rfl)
theorem zasz:SG ZP sg 108 @zayv:=conM (loops:=l0) (ids:=[]) good Tryz.func108 (by kernel_rfl) (by kernel_rfl) (cgc zgp (cgc zpk (cgc zhx (cgc zpj (cgc zas1 (cgc zase (cgc zate (cgc zaqf cg0)))))))) zaa (fun a b=>by kernel_rfl)
theorem z6s:SG ZP sg 29 @zayf:=conE good Tryz.func29 (by kernel_rfl) (by kernel_rfl) (cgc zhy (cgc zvd (cgc zik (cgc zgp (cgc zu0 (cgc zj8 (cgc zasz (cgc z6h (cgc zu4 cg0))))))))) (fun a=>by kernel_rfl)
theorem zasw:SG ZP sg 15 @zayu:=conE good Tryz.func15 (by kernel_rfl) (by kernel_rfl) (cgc z6l (cgc zaqq (cgc z6s (cgc zaqh (cgc zas9 (cgc zaq1 (cgc zare (cgc z5h (cgc zasa cg0))))))))) (fun a=>by kernel_rfl)
theorem zak1:fnB ZP 103 Tryz.f103 [10]=true:=by kernel_rfl
theorem zaju:CG ZP sg @zaeg:=(cgc zg5 (cgc z54 cg0))
theorem z80:zaf ZP sg 0 Tryz.f103 @zs3 10:=zas zsm good Tryz.func103 zak1 zaju zaa (fun a=>by kernel_rfl) (by kernel_rfl) (fun _ _=>rfl)
theorem zpe:SG ZP sg 103 @zawd:=conD (loops:=zs3) good Tryz.func103 zak1 (by kernel_rfl) zaju (all_cons z80 zaa) (fun a=>by kernel_rfl)
theorem zaso:SG ZP sg 155 @zayo:=conE good Tryz.func155 (by kernel_rfl) (by kernel_rfl) (cgc z5j cg0) (fun a=>by kernel_rfl)
theorem zasy:SG ZP sg 313 @zacz:=conE good Tryz.func313 (by kernel_rfl) (by kernel_rfl) cg0 (fun a=>by kernel_rfl)
theorem zarv:SG ZP sg 314 @zack:=conE good Tryz.func314 (by kernel_rfl) (by kernel_rfl) cg0 (fun a=>by kernel_rfl)
theorem zal0:fnB ZP 288 Tryz.f288 [3]=true:=by kernel_rfl
theorem zakm:CG ZP sg @zae9:=(cgc zasy (cgc zarv cg0))
theorem zahg:zaf ZP sg 0 Tryz.f288 @ztv 3:=zas zzf good Tryz.func288 zal0 zakm zaa (fun a=>by kernel_rfl) (by kernel_rfl) (fun _ _=>rfl)
theorem zaqw:SG ZP sg 288 @zaw6:=conD (loops:=ztv) good Tryz.func288 zal0 (by kernel_rfl) zakm (all_cons zahg zaa) (fun a=>by kernel_rfl)
theorem zasq:SG ZP sg 216 @zayq:=conE good Tryz.func216 (by kernel_rfl) (by kernel_rfl) (cgc zaqw cg0) (fun a=>by kernel_rfl)
theorem z6m:SG ZP sg 124 @zax6:=conE good Tryz.func124 (by kernel_rfl) (by kernel_rfl) (cgc zph (cgc zasq cg0)) (fun a=>by kernel_rfl)
theorem zakt:SG ZP sg 126 @za4p:=conE good Tryz.func126 (by kernel_rfl) (by kernel_rfl) cg0 (fun a=>by kernel_rfl)
theorem zasr:SG ZP sg 338 @zayr:=conE good Tryz.func338 (by kernel_rfl) (by kernel_rfl) cg0 (fun a=>by kernel_rfl)
theorem zasv:SG ZP sg 315 @zacx:=conE good Tryz.func315 (by kernel_rfl) (by kernel_rfl) (cgc zasr cg0) (fun a=>by kernel_rfl)
theorem z67:fnB ZP 290 Tryz.f290 [6,12]=true:=by kernel_rfl
theorem zapl:CG ZP sg @zape:=(cgc zasv cg0)
theorem zau0:zaf ZP sg 0 Tryz.f290 @zqp 6:=zas z8s good Tryz.func290 z67 zapl zaa (fun a=>by kernel_rfl) (by kernel_rfl) (fun _ _=>rfl)
theorem zahx:zaf ZP sg 0 Tryz.f290 @zqp 12:=zas zzx good Tryz.func290 z67 zapl zaa (fun a=>by kernel_rfl) (by kernel_rfl) (fun _ _=>rfl)
theorem zakw:SG ZP sg 290 @zac2:=conD (loops:=zqp) good Tryz.func290 z67 (by kernel_rfl) zapl (all_cons zau0 (all_cons zahx zaa)) (fun a=>by kernel_rfl)
theorem zaly:fnB ZP 286 Tryz.f286 [3]=true:=by kernel_rfl
theorem zako:CG ZP sg @zafb:=(cgc zakw cg0)
theorem zahi:zaf ZP sg 0 Tryz.f286 @ztx 3:=zas zzh good Tryz.func286 zaly zako zaa (fun a=>by kernel_rfl) (by kernel_rfl) (fun _ _=>rfl)
theorem zaqy:SG ZP sg 286 @zaw8:=conD (loops:=ztx) good Tryz.func286 zaly (by kernel_rfl) zako (all_cons zahi zaa) (fun a=>by kernel_rfl)
theorem zasp:SG ZP sg 206 @zayp:=conE good Tryz.func206 (by kernel_rfl) (by kernel_rfl) (cgc zaku (cgc z6d (cgc zaqy cg0))) (fun a=>by kernel_rfl)
theorem zalr:fnB ZP 229 Tryz.f229 [3]=true:=by kernel_rfl
theorem zaj8:CG ZP sg @zaev:=(cgc z5n cg0)
theorem zag2:zaf ZP sg 0 Tryz.f229 @zth 3:=zas zy1 good Tryz.func229 zalr zaj8 zaa (fun a=>by kernel_rfl) (by kernel_rfl) (fun _ _=>rfl)
theorem zaqe:SG ZP sg 229 @zawn:=conD (loops:=zth) good Tryz.func229 zalr (by kernel_rfl) zaj8 (all_cons zag2 zaa) (fun a=>by kernel_rfl)
theorem zas7:SG ZP sg 151 @zay3:=conE good Tryz.func151 (by kernel_rfl) (by kernel_rfl) (cgc zaqe cg0) (fun a=>by kernel_rfl)
theorem zall:fnB ZP 207 Tryz.f207 [4]=true:=by kernel_rfl
theorem zakl:CG ZP sg @zae8:=cg0
theorem zahf:zaf ZP sg 0 Tryz.f207 @ztu 4:=zas zze good Tryz.func207 zall zakl zaa (fun a=>by kernel_rfl) (by kernel_rfl) (fun _ _=>rfl)
theorem zaqv:SG ZP sg 207 @zaw5:=conD (loops:=ztu) good Tryz.func207 zall (by kernel_rfl) zakl (all_cons zahf zaa) (fun a=>by kernel_rfl)
theorem zas4:SG ZP sg 112 @zay0:=conE good Tryz.func112 (by kernel_rfl) (by kernel_rfl) (cgc zg5 (cgc zpe (cgc z6m (cgc zakt (cgc zas7 (cgc zaso (cgc zasp (cgc zaqv cg0)))))))) (fun a=>by kernel_rfl)
theorem zalq:fnB ZP 220 Tryz.f220 [2]=true:=by kernel_rfl
theorem zakf:CG ZP sg @zae2:=(cgc zakw cg0)
theorem zag9:zaf ZP sg 0 Tryz.f220 @zto 2:=zas zy8 good Tryz.func220 zalq zakf zaa (fun a=>by kernel_rfl) (by kernel_rfl) (fun _ _=>rfl)
theorem zaqo:SG ZP sg 220 @zabg:=conD (loops:=zto) good Tryz.func220 zalq (by kernel_rfl) zakf (all_cons zag9 zaa) (fun a=>by kernel_rfl)
theorem zak5:fnB ZP 133 Tryz.f133 [9]=true:=by kernel_rfl
theorem zakn:CG ZP sg @zafa:=(cgc zaqo cg0)
theorem zahh:zaf ZP sg 0 Tryz.f133 @ztw 9:=zas zzg good Tryz.func133 zak5 zakn zaa (fun a=>by kernel_rfl) (by kernel_rfl) (fun _ _=>rfl)
theorem zaqx:SG ZP sg 133 @zaw7:=conD (loops:=ztw) good Tryz.func133 zak5 (by kernel_rfl) zakn (all_cons zahh zaa) (fun a=>by kernel_rfl)
theorem zak4:fnB ZP 132 Tryz.f132 [2]=true:=by kernel_rfl
theorem zaj3:CG ZP sg @zaeq:=cg0
theorem zagx:zaf ZP sg 0 Tryz.f132 @ztc 2:=zas zyw good Tryz.func132 zak4 zaj3 zaa (fun a=>by kernel_rfl) (by kernel_rfl) (fun _ _=>rfl)
theorem zuy:SG ZP sg 132 @zwx:=conD (loops:=ztc) good Tryz.func132 zak4 (by kernel_rfl) zaj3 (all_cons zagx zaa) (fun a=>by kernel_rfl)
theorem zals:fnB ZP 230 Tryz.f230 [3]=true:=by kernel_rfl
theorem zakh:CG ZP sg @zae4:=cg0
theorem zahb:zaf ZP sg 0 Tryz.f230 @ztq 3:=zas zza good Tryz.func230 zals zakh zaa (fun a=>by kernel_rfl) (by kernel_rfl) (fun _ _=>rfl)
theorem zaqr:SG ZP sg 230 @zabi:=conD (loops:=ztq) good Tryz.func230 zals (by kernel_rfl) zakh (all_cons zahb zaa) (fun a=>by kernel_rfl)
theorem zalm:fnB ZP 208 Tryz.f208 [9]=true:=by kernel_rfl
theorem zake:CG ZP sg @zae1:=(cgc zuy (cgc zaqr (cgc z5z (cgc z6g cg0))))
theorem zag8:zaf ZP sg 0 Tryz.f208 @ztn 9:=zas zy7 good Tryz.func208 zalm zake zaa (fun a=>by kernel_rfl) (by kernel_rfl) (fun _ _=>rfl)
theorem z5x:SG ZP sg 208 @zawz:=conD (loops:=ztn) good Tryz.func208 zalm (by kernel_rfl) zake (all_cons zag8 zaa) (fun a=>by kernel_rfl)
theorem z6k:SG ZP sg 113 @zax3:=conE good Tryz.func113 (by kernel_rfl) (by kernel_rfl) (cgc zg5 (cgc zpe (cgc z6m (cgc zakt (cgc zaqx (cgc z5x cg0)))))) (fun a=>by kernel_rfl)
theorem z68:fnB ZP 293 Tryz.f293 [3,6]=true:=by kernel_rfl
theorem zapf:CG ZP sg @zaor:=cg0
theorem z8u:zaf ZP sg 0 Tryz.f293 @zqj 6:=zas z7t good Tryz.func293 z68 zapf zaa (fun a=>by kernel_rfl) (by kernel_rfl) (fun _ _=>rfl)
theorem zaua:zaf ZP sg 0 Tryz.f293 @zqj 3:=zas z7s good Tryz.func293 z68 zapf (all_cons z8u zaa) (fun a=>by kernel_rfl) (by kernel_rfl) (fun _ _=>rfl)
theorem za09:SG ZP sg 293 @zan0:=conD (loops:=zqj) good Tryz.func293 z68 (by kernel_rfl) zapf (all_cons zaua (all_cons z8u zaa)) (fun a=>by kernel_rfl)
theorem zalt:fnB ZP 235 Tryz.f235 [4]=true:=by kernel_rfl
theorem zakp:CG ZP sg @zafc:=(cgc zuy (cgc za09 cg0))
theorem zahj:zaf ZP sg 0 Tryz.f235 @zty 4:=zas zzi good Tryz.func235 zalt zakp zaa (fun a=>by kernel_rfl) (by kernel_rfl) (fun _ _=>rfl)
theorem zaqz:SG ZP sg 235 @zaw9:=conD (loops:=zty) good Tryz.func235 zalt (by kernel_rfl) zakp (all_cons zahj zaa) (fun a=>by kernel_rfl)
theorem zatf:SG ZP sg 157 @zazb:=conE good Tryz.func157 (by kernel_rfl) (by kernel_rfl) (cgc zg5 (cgc zaqz cg0)) (fun a=>by kernel_rfl)
theorem zatg:SG ZP sg 114 @zazc:=conE good Tryz.func114 (by kernel_rfl) (by kernel_rfl) (cgc zg5 (cgc zpe (cgc z6k (cgc zuy (cgc zatf (cgc z5x cg0)))))) (fun a=>by kernel_rfl)
theorem zath:SG ZP sg 30 @zazd:=conE good Tryz.func30 (by kernel_rfl) (by kernel_rfl) (cgc zg5 (cgc zpe (cgc z5k (cgc z6i (cgc zas4 (cgc z6k (cgc zatg cg0))))))) (fun a=>by kernel_rfl)
theorem zato:fnB ZP 61 Tryz.f61 [2,7]=true:=by kernel_rfl
theorem zapk:CG ZP sg @zapc:=cg0
theorem z86:zaf ZP sg 0 Tryz.f61 @zqo 7:=zas z8q good Tryz.func61 zato zapk zaa (fun a=>by kernel_rfl) (by kernel_rfl) (fun _ _=>rfl)
theorem zauy:zaf ZP sg 0 Tryz.f61 @zqo 2:=zas z8p good Tryz.func61 zato zapk (all_cons z86 zaa) (fun a=>by kernel_rfl) (by kernel_rfl) (fun _ _=>rfl)
theorem za1r:SG ZP sg 61 @zaoa:=conD (loops:=zqo) good Tryz.func61 zato (by kernel_rfl) zapk (all_cons zauy (all_cons z86 zaa)) (fun a=>by kernel_rfl)
theorem zr3:fnB ZP 16 Tryz.f16 [6,11,16,21,26,31,36]=true:=by kernel_rfl
theorem zrl:CG ZP sg @zaou:=(cgc za1r cg0)
theorem zaue:zaf ZP sg 0 Tryz.f16 @zen 6:=zas z7x good Tryz.func16 zr3 zrl zaa (fun a=>by kernel_rfl) (by kernel_rfl) (fun _ _=>rfl)
theorem zahk:zaf ZP sg 0 Tryz.f16 @zen 11:=zas zzj good Tryz.func16 zr3 zrl zaa (fun a=>by kernel_rfl) (by kernel_rfl) (fun _ _=>rfl)
theorem zahl:zaf ZP sg 0 Tryz.f16 @zen 16:=zas zzk good Tryz.func16 zr3 zrl zaa (fun a=>by kernel_rfl) (by kernel_rfl) (fun _ _=>rfl)
theorem zahm:zaf ZP sg 0 Tryz.f16 @zen 21:=zas zzl good Tryz.func16 zr3 zrl zaa (fun a=>by kernel_rfl) (by kernel_rfl) (fun _ _=>rfl)
theorem zahn:zaf ZP sg 0 Tryz.f16 @zen 26:=zas zzm good Tryz.func16 zr3 zrl zaa (fun a=>by kernel_rfl) (by kernel_rfl) (fun _ _=>rfl)
theorem zaho:zaf ZP sg 0 Tryz.f16 @zen 31:=zas zzn good Tryz.func16 zr3 zrl zaa (fun a=>by kernel_rfl) (by kernel_rfl) (fun _ _=>rfl)
theorem zahp:zaf ZP sg 0 Tryz.f16 @zen 36:=zas zzo good Tryz.func16 zr3 zrl zaa (fun a=>by kernel_rfl) (by kernel_rfl) (fun _ _=>rfl)
theorem za1c:SG ZP sg 16 @za4k:=conD (loops:=zen) good Tryz.func16 zr3 (by kernel_rfl) zrl (all_cons zaue (all_cons zahk (all_cons zahl (all_cons zahm (all_cons zahn (all_cons zaho (all_cons zahp zaa))))))) (fun a=>by kernel_rfl)
theorem zarr:SG ZP sg 6 @zaxx:=conE good Tryz.func6 (by kernel_rfl) (by kernel_rfl) (cgc zasw (cgc za1c (cgc zatd (cgc z6s (cgc zath cg0))))) (fun a=>by kernel_rfl)
end Go.Proofs.YtdahfgialanmpaaGreatDoor
namespace Go.Proofs.YtdahfgialanmpaaGreatDoor
open Ev
open Go (IntKind)
section
variable {α β σ X:Type}
theorem z14 {step:α→Option (α⊕β)}:∀{n m:Nat} {a:α} {b:β},n≤m→za1 step n a=some b→za1 step m a=some b:=by
 intro n
 induction n with
 |zero=>intro m a b _ h;cases h
 |succ n ih=>
  intro m a b hm h
  obtain ⟨m,rfl⟩:∃k,m=k+1:=⟨m-1,by omega⟩
  simp only[za1]at h ⊢
  cases h1:step a with
  |none=>rw[h1]at h;cases h
  |some x=>
   rw[h1]at h
   cases x with
   |inl a'=>exact ih (by omega) h
   |inr b'=>exact h
theorem zbd {step:α→Option (α⊕β)} {a:α} {b:β} (n:Nat) (hn:n≤FUEL) (h:za1 step n a=some b):zad step a=some b:=z14 hn h
theorem zade {step:α→Option (α⊕β)} (Inv:α→Prop) (μ:α→Nat) (f:α→β)
 (h:∀a,Inv a→(∃a',step a=some (.inl a')∧Inv a'∧μ a'<μ a∧f a'=f a)∨step a=some (.inr (f a))) {a:α} (ha:Inv a) (hm:μ a<FUEL):zad step a=some (f a):=by
 have key:∀n a,Inv a→μ a<n→za1 step n a=some (f a):=by
  intro n
  induction n with
  |zero=>intro a _ h;omega
  |succ n ih=>
   intro a hi hn
   simp only[za1]
   rcases h a hi with ⟨a',h1,h2,h3,h4⟩|h1
   ·rw[h1];simp only;rw[ih a' h2 (by omega),h4]
   ·rw[h1]
 exact key FUEL a ha hm
def zc7 (f:Nat→X→σ→σ⊕β) (fin:σ→β):Nat→List X→σ→β
 |_,[],s=>fin s
 |i,x::l,s=>match f i x s with
  |.inl s'=>zc7 f fin (i+1) l s'
  |.inr b=>b
theorem zbg {step:α→Option (α⊕β)} (Inv:Nat→σ→Prop) (enc:Nat→σ→α) (l:List X) (f:Nat→X→σ→σ⊕β) (fin:σ→β) (hl:l.length<FUEL)
 (h0:∀s,Inv l.length s→step (enc l.length s)=some (.inr (fin s)))
 (h1:∀i x s,l[i]?=some x→Inv i s→(step (enc i s)=some (match f i x s with | .inl s'=>.inl (enc (i+1) s') | .inr b=>.inr b))∧∀s',f i x s=.inl s'→Inv (i+1) s')
 (s:σ) (hs:Inv 0 s):zad step (enc 0 s)=some (zc7 f fin 0 l s):=by
 have key:∀k i s,i+k=l.length→Inv i s→za1 step (k+1) (enc i s)=some (zc7 f fin i (l.drop i) s):=by
  intro k
  induction k with
  |zero=>
   intro i s hi hs
   have:i=l.length:=by omega
   subst this
   rw[List.drop_length]
   simp only[za1,h0 s hs,zc7]
  |succ k ih=>
   intro i s hi hs
   have hlt:i<l.length:=by omega
   obtain ⟨e1,e2⟩:=h1 i l[i] s (List.getElem?_eq_getElem hlt) hs
   rw[List.drop_eq_getElem_cons hlt]
   rw[za1,e1]
   simp only[zc7]
   cases hf:f i l[i] s with
   |inl s'=>simp only;exact ih (i+1) s' (by omega) (e2 s' hf)
   |inr b=>rfl
 have:=key l.length 0 s (by omega) hs
 exact zbd (l.length+1) (by omega) (by simpa using this)
theorem zdp {step:α→Option (α⊕β)} (enc:Nat→σ→α) (l:List X) (f:Nat→X→σ→σ⊕β) (fin:σ→β) (hl:l.length<FUEL)
 (h0:∀s,step (enc l.length s)=some (.inr (fin s)))
 (h1:∀i x s,l[i]?=some x→step (enc i s)=some (match f i x s with | .inl s'=>.inl (enc (i+1) s') | .inr b=>.inr b))
 (s:σ):zad step (enc 0 s)=some (zc7 f fin 0 l s):=
 zbg (fun _ _=>True) enc l f fin hl (fun s _=>h0 s) (fun i x s hx _=>⟨h1 i x s hx,fun _ _=>trivial⟩) s trivial
def fIdx (p:X→Bool) (l:List X):Int:=match l.findIdx? p with|some i=>(i:Int)|none=>-1
def zb9 (f:Nat→X→Int):Nat→List X→Int
 |_,[]=>0
 |i,x::l=>if f i x==0 then zb9 f (i+1) l else f i x
theorem zaap {f:Nat→X→Int} {d:β} {g:Int→β}:∀{l:List X} {i:Nat},zc7 (σ:=Unit) (fun i x _=>if f i x==0 then .inl () else .inr (g (f i x))) (fun _=>d) i l ()=if zb9 f i l==0 then d else g (zb9 f i l):=by
 intro l
 induction l with
 |nil=>intros;rfl
 |cons x l ih=>
  intro i
  simp only[zc7,zb9]
  by_cases h:(f i x==0)=true
  ·simp only[h,if_true];exact ih
  ·have h2:¬f i x=0:=fun e=>h (by simp[e])
   simp[h2]
theorem z1q {f:Nat→X→Int}:∀{l:List X} {i:Nat},zb9 f i l=0↔∀k x,l[k]?=some x→f (i+k) x=0:=by
 intro l
 induction l with
 |nil=>intro i;simp[zb9]
 |cons y l ih=>
  intro i
  simp only[zb9]
  constructor
  ·intro h k x hk
   split at h
   ·rename_i h1
    cases k with
    |zero=>simp at hk;subst hk;simpa using h1
    |succ k=>have:=(ih (i:=i+1)).1 h k x (by simpa using hk);rwa [show i+(k+1)=i+1+k by omega]
   ·rename_i h1;exfalso;apply h1;simp[h]
  ·intro h
   have h0:=h 0 y rfl
   simp only[Nat.add_zero]at h0
   rw[h0]
   simp only[beq_self_eq_true,if_true]
   exact ih.2 (fun k x hk=>by have:=h (k+1) x (by simpa using hk);rwa [show i+(k+1)=i+1+k by omega]at this)
theorem zdm {f:X→σ→σ} {fin:σ→β}:∀{l:List X} {i:Nat} {s:σ},zc7 (fun _ x s=>.inl (f x s)) fin i l s=fin (l.foldl (fun s x=>f x s) s):=by
 intro l
 induction l with
 |nil=>intros;rfl
 |cons x l ih=>intro i s;simp only[zc7,List.foldl_cons];exact ih
end
section
variable {α β σ X:Type} {step:α→Option (α⊕β)}
def zgn (a:α) (g:Int→β) (e:Int):Option (α⊕β):=if e==0 then some (.inl a) else some (.inr (g e))
theorem zdh (a:α) (g:Int→β) (b:Bool) (x y:Int):zgn a g (bif b then x else y)=bif b then zgn a g x else zgn a g y:=by cases b<;>rfl
theorem zd7 (enc:Nat→α) (l:List X) (f:Nat→X→Int) (d:β) (g:Int→β) (hl:l.length<1000000000) (h0:step (enc l.length)=some (.inr d))
 (h1:∀i x,l[i]?=some x→step (enc i)=zgn (enc (i+1)) g (f i x)):zad step (enc 0)=some (if zb9 f 0 l==0 then d else g (zb9 f 0 l)):=by
 have h:=zdp (step:=step) (fun i (_:Unit)=>enc i) l (fun i x _=>if f i x==0 then .inl () else .inr (g (f i x))) (fun _=>d) (by show l.length<18446744073709551616;omega) (fun _=>h0)
  (fun i x _ hx=>by rw[h1 i x hx];unfold zgn;split<;>rfl) ()
 rw[h,zaap]
def zet (p:X→Bool) (g:Nat→X→β) (d:β):Nat→List X→β
 |_,[]=>d
 |i,x::l=>bif p x then g i x else zet p g d (i+1) l
theorem zbm (enc:Nat→α) (l:List X) (p:X→Bool) (g:Nat→X→β) (d:β) (hl:l.length<1000000000) (h0:step (enc l.length)=some (.inr d))
 (h1:∀i x,l[i]?=some x→step (enc i)=bif p x then some (.inr (g i x)) else some (.inl (enc (i+1)))):zad step (enc 0)=some (zet p g d 0 l):=by
 have h:=zdp (step:=step) (fun i (_:Unit)=>enc i) l (fun i x _=>if p x then .inr (g i x) else .inl ()) (fun _=>d) (by show l.length<18446744073709551616;omega) (fun _=>h0)
  (fun i x _ hx=>by rw[h1 i x hx];cases p x<;>rfl) ()
 rw[h]
 have key:∀(l:List X) (i:Nat),zc7 (σ:=Unit) (fun i x _=>if p x then .inr (g i x) else .inl ()) (fun _=>d) i l ()=zet p g d i l:=by
  intro l
  induction l with
  |nil=>intro i;rfl
  |cons x l ih=>
   intro i
   simp only[zc7,zet]
   cases p x with
   |true=>rfl
   |false=>exact ih _
 rw[key]
theorem zh3 {p:X→Bool} {g:X→β} {d:β}:∀{l:List X} {i:Nat},zet p (fun _ x=>g x) d i l=(match l.find? p with|some x=>g x|none=>d):=by
 intro l
 induction l with
 |nil=>intros;rfl
 |cons x l ih=>intro i;simp only[zet,List.find?_cons];cases p x with|true=>rfl|false=>exact ih
theorem z7b {p:X→Bool}:∀{l:List X} {i:Nat},zet p (fun i _=>(i:Int)) (-1) i l=(match l.findIdx? p with|some k=>((i+k:Nat):Int)|none=>-1):=by
 intro l
 induction l with
 |nil=>intros;rfl
 |cons x l ih=>
  intro i
  simp only[zet,List.findIdx?_cons]
  cases p x with
  |true=>rfl
  |false=>
   simp only[Bool.false_eq_true,if_false,cond_false]
   rw[ih]
   cases l.findIdx? p with
   |none=>rfl
   |some k=>simp only[Option.map_some];rw[show i+1+k=i+(k+1) by omega]
theorem zc0 {p:X→Bool} {l:List X}:zet p (fun i _=>(i:Int)) (-1) 0 l=fIdx p l:=by
 rw[z7b];unfold fIdx;simp
theorem zcc {γ:Type} {p:X→Bool} {g:Nat→X→β} {d:β} (f:β→γ):∀{l:List X} {i:Nat},f (zet p g d i l)=zet p (fun i x=>f (g i x)) (f d) i l:=by
 intro l
 induction l with
 |nil=>intros;rfl
 |cons x l ih=>intro i;simp only[zet];cases p x with|true=>rfl|false=>exact ih
def zc9 (p:Nat→X→Bool):Nat→List X→Bool
 |_,[]=>true
 |i,x::l=>p i x&&zc9 p (i+1) l
theorem zav (enc:Nat→α) (l:List X) (p:Nat→X→Bool) (b d:β) (hl:l.length<1000000000) (h0:step (enc l.length)=some (.inr d))
 (h1:∀i x,l[i]?=some x→step (enc i)=bif p i x then some (.inl (enc (i+1))) else some (.inr b)):zad step (enc 0)=some (bif zc9 p 0 l then d else b):=by
 have h:=zdp (step:=step) (fun i (_:Unit)=>enc i) l (fun i x _=>if p i x then .inl () else .inr b) (fun _=>d) (by show l.length<18446744073709551616;omega) (fun _=>h0)
  (fun i x _ hx=>by rw[h1 i x hx];cases p i x<;>rfl) ()
 rw[h]
 have key:∀(l:List X) (i:Nat),zc7 (σ:=Unit) (fun i x _=>if p i x then .inl () else .inr b) (fun _=>d) i l ()=bif zc9 p i l then d else b:=by
  intro l
  induction l with
  |nil=>intro i;rfl
  |cons x l ih=>
   intro i
   simp only[zc7,zc9]
   cases p i x with
   |true=>exact ih _
   |false=>rfl
 rw[key]
theorem zay {p:X→Bool}:∀{l:List X} {i:Nat},zc9 (fun _=>p) i l=l.all p:=by
 intro l
 induction l with
 |nil=>intros;rfl
 |cons x l ih=>intro i;simp only[zc9,List.all_cons];rw[ih]
theorem zjp {p:Nat→X→Bool}:∀{l:List X} {i:Nat},zc9 p i l=true↔∀k x,l[k]?=some x→p (i+k) x=true:=by
 intro l
 induction l with
 |nil=>intro i;simp[zc9]
 |cons y l ih=>
  intro i
  simp only[zc9,Bool.and_eq_true]
  rw[ih]
  constructor
  ·rintro ⟨h0,h⟩ k x hk
   cases k with
   |zero=>simp at hk;subst hk;exact h0
   |succ k=>have:=h k x (by simpa using hk);rwa [show i+(k+1)=i+1+k by omega]
  ·intro h
   exact ⟨h 0 y rfl,fun k x hk=>by have:=h (k+1) x (by simpa using hk);rwa [show i+(k+1)=i+1+k by omega]at this⟩
end
def zbt {X:Type} (l:List X) (i:Nat) (f:X→Bool):Bool:=match i with
 |0=>false
 |j+1=>match l[j]? with|some y=>f y|none=>false
theorem zco {n:Int} (h1 : -9223372036854775808≤n) (h2:n≤9223372036854775807):wr .i64 n=n:=by
 unfold wr;rw[IntKind.wrap_i64];omega
theorem zam {n:Nat} (h:n<9223372036854775807):wr .i64 ((n:Int)+1)=((n+1:Nat):Int):=by
 rw[zco (by omega) (by omega)];rfl
theorem zfn {j:Nat} (h:j<1000000000):wr .i64 (((j+1:Nat):Int)-1)=(j:Int):=by
 rw[show ((j+1:Nat):Int)-1=(j:Int) by omega]
 exact zco (by omega) (by omega)
theorem dpos {j:Nat}:decide ((0:Int)<((j+1:Nat):Int))=true:=by rw[decide_eq_true_eq];omega
theorem zvj:decide ((0:Int)<((0:Nat):Int))=false:=rfl
theorem zag {α:Type} (l:List α) (i:Nat):getI l (i:Int)=l[i]?:=by
 unfold getI;simp
theorem zaiy:LIM=1073741824:=rfl
theorem za4:FUEL=18446744073709551616:=rfl
end Go.Proofs.YtdahfgialanmpaaGreatDoor
namespace Go.Proofs.YtdahfgialanmpaaGreatDoor
open Ev
open Go (IntKind)
theorem dlt {i n:Nat} (h:i<n):decide ((i:Int)<(n:Int))=true:=by simpa using h
theorem dge {n:Nat}:decide ((n:Int)<(n:Int))=false:=by simp
theorem k_or {α:Type} (k:Bool→α) (a b:Bool):(bif a then k true else k b)=k (a||b):=by cases a<;>rfl
theorem za7 {α:Type} (k:Bool→α) (a b:Bool):(bif a then k b else k false)=k (a&&b):=by cases a<;>rfl
theorem zh6 {α:Type} (k:Bool→α) (a b:Bool):(bif a then k a else k b)=k (a||b):=by cases a<;>rfl
theorem zc4 {α:Type} (c:Bool) (a b:α):(bif c then some a else some b)=some (bif c then a else b):=by cases c<;>rfl
theorem zazj (b:UInt8):wr .i64 (b.toNat:Int)=(b.toNat:Int):=by
 have:=b.toNat_lt
 exact zco (by omega) (by omega)
def dcdI (r:List UInt8):Int×Int:=(((dcd r).1:Int),((dcd r).2:Int))
theorem z9y {s:List UInt8} {i:Nat} (hi:i<s.length) (hs:s.length<1000000000):qbb s (i:Int)=some (dcdI (s.drop i)):=by
 obtain ⟨a,r,hr⟩:∃a r,s.drop i=a::r:=⟨s[i],s.drop (i+1),List.drop_eq_getElem_cons hi⟩
 have g:∀k,getI s ((i+k:Nat):Int)=(a::r)[k]?:=fun k=>by rw[zag,←hr,List.getElem?_drop]
 have h0:getI s (i:Int)=some a:=g 0
 have w1:wr .i64 ((i:Int)+1)=((i+1:Nat):Int):=zam (by omega)
 have w2:wr .i64 ((i:Int)+2)=((i+2:Nat):Int):=by rw[zco (by omega) (by omega)];rfl
 have hl:s.length=i+(r.length+1):=by
  have:=congrArg List.length hr
  simp only[List.length_drop,List.length_cons]at this
  omega
 have ha:=a.toNat_lt
 unfold qbb
 rw[hr]
 unfold dcdI dcd
 have t1:decide (((i+1:Nat):Int)<((i+(r.length+1):Nat):Int))=decide (0<r.length):=by congr 1;simp only[eq_iff_iff];omega
 have t2:decide (((i+2:Nat):Int)<((i+(r.length+1):Nat):Int))=decide (1<r.length):=by congr 1;simp only[eq_iff_iff];omega
 simp -zeta only[h0,w1,w2,g 1,g 2,zazj,k_or,za7,hl,t1,t2]
 dsimp only
 clear hl t1 t2 g hr hi h0 w1 w2 hs
 by_cases c1:32≤a.toNat∧a.toNat<127
 ·have e1:(decide ((32:Int)≤(a.toNat:Int))&&decide ((a.toNat:Int)<127))=true:=by simp;omega
  simp only[e1,cond_true,if_pos c1];rfl
 have e1:(decide ((32:Int)≤(a.toNat:Int))&&decide ((a.toNat:Int)<127))=false:=by simp;omega
 simp only[e1,cond_false,if_neg c1]
 by_cases c2:194≤a.toNat∧a.toNat<224
 ·have e2:(decide ((194:Int)≤(a.toNat:Int))&&decide ((a.toNat:Int)<224))=true:=by simp;omega
  have e3:decide ((224:Int)≤(a.toNat:Int))=false:=by simp;omega
  simp only[e2,e3,Bool.true_and,Bool.false_and,cond_false,if_pos c2]
  rcases r with _|⟨b,r⟩
  ·rfl
  have hb:=b.toNat_lt
  have l1:decide (0<(b::r).length)=true:=by simp
  have g1:(a::b::r)[1]?=some b:=rfl
  have e4:wr .i64 ((wr .i64 ((wr .i64 ((wr .i64 ((a.toNat:Int)-192))*64))+(b.toNat:Int)))-128)=((a.toNat:Int)-192)*64+(b.toNat:Int)-128:=by
   rw[zco (n:=(a.toNat:Int)-192) (by omega) (by omega),zco (n:=((a.toNat:Int)-192)*64) (by omega) (by omega),zco (n:=((a.toNat:Int)-192)*64+(b.toNat:Int)) (by omega) (by omega),zco (by omega) (by omega)]
  simp only[l1,g1,e4,cond_true]
  by_cases cb:128≤b.toNat
  ·have b1:decide ((128:Int)≤(b.toNat:Int))=true:=by simp;omega
   simp only[b1,cond_true]
   by_cases cb2:b.toNat<192
   ·have b2:decide ((b.toNat:Int)<192)=true:=by simp;omega
    simp only[b2,g1,cond_true,Bool.cond_eq_ite,decide_eq_true_eq]
    rw[if_pos True.intro]
    split
    ·rw[if_pos (by omega)];simp only[Option.some.injEq,Prod.mk.injEq];omega
    ·rw[if_neg (by omega)];rfl
   ·have b2:decide ((b.toNat:Int)<192)=false:=by simp;omega
    simp only[b2,cond_false]
    rw[if_neg (by omega)];rfl
  ·have b1:decide ((128:Int)≤(b.toNat:Int))=false:=by simp;omega
   simp only[b1,cond_false]
   rw[if_neg (by omega)];rfl
 have e2:(decide ((194:Int)≤(a.toNat:Int))&&decide ((a.toNat:Int)<224))=false:=by simp;omega
 simp only[e2,Bool.false_and,cond_false,if_neg c2]
 by_cases c3:224≤a.toNat∧a.toNat<240
 ·have e3:(decide ((224:Int)≤(a.toNat:Int))&&decide ((a.toNat:Int)<240))=true:=by simp;omega
  simp only[e3,Bool.true_and,if_pos c3]
  rcases r with _|⟨b,_|⟨c,r⟩⟩
  ·rfl
  ·rfl
  have hb:=b.toNat_lt
  have hc:=c.toNat_lt
  have l1:decide (1<(b::c::r).length)=true:=by simp
  have g1:(a::b::c::r)[1]?=some b:=rfl
  have g2:(a::b::c::r)[2]?=some c:=rfl
  have e4:wr .i64 ((wr .i64 ((wr .i64 ((wr .i64 ((wr .i64 ((a.toNat:Int)-224))*4096))+(wr .i64 ((wr .i64 ((b.toNat:Int)-128))*64))))+(c.toNat:Int)))-128)=((a.toNat:Int)-224)*4096+((b.toNat:Int)-128)*64+(c.toNat:Int)-128:=by
   rw[zco (n:=(a.toNat:Int)-224) (by omega) (by omega),zco (n:=((a.toNat:Int)-224)*4096) (by omega) (by omega),zco (n:=(b.toNat:Int)-128) (by omega) (by omega),zco (n:=((b.toNat:Int)-128)*64) (by omega) (by omega),
    zco (n:=((a.toNat:Int)-224)*4096+((b.toNat:Int)-128)*64) (by omega) (by omega),zco (n:=((a.toNat:Int)-224)*4096+((b.toNat:Int)-128)*64+(c.toNat:Int)) (by omega) (by omega),zco (by omega) (by omega)]
  simp only[l1,g1,g2,e4,cond_true]
  by_cases cb:128≤b.toNat
  ·have b1:decide ((128:Int)≤(b.toNat:Int))=true:=by simp;omega
   simp only[b1,cond_true]
   by_cases cb2:b.toNat<192
   ·have b2:decide ((b.toNat:Int)<192)=true:=by simp;omega
    simp only[b2,cond_true]
    by_cases cc:128≤c.toNat
    ·have d1:decide ((128:Int)≤(c.toNat:Int))=true:=by simp;omega
     simp only[d1,cond_true]
     by_cases cc2:c.toNat<192
     ·have d2:decide ((c.toNat:Int)<192)=true:=by simp;omega
      simp only[d2,g1,g2,cond_true,Bool.cond_eq_ite,Bool.and_eq_true,Bool.or_eq_true,decide_eq_true_eq]
      rw[if_pos True.intro]
      split
      ·rw[if_pos (by omega)];simp only[Option.some.injEq,Prod.mk.injEq];omega
      ·rw[if_neg (by omega)];rfl
     ·have d2:decide ((c.toNat:Int)<192)=false:=by simp;omega
      simp only[d2,cond_false]
      rw[if_neg (by omega)];rfl
    ·have d1:decide ((128:Int)≤(c.toNat:Int))=false:=by simp;omega
     simp only[d1,cond_false]
     rw[if_neg (by omega)];rfl
   ·have b2:decide ((b.toNat:Int)<192)=false:=by simp;omega
    simp only[b2,cond_false]
    rw[if_neg (by omega)];rfl
  ·have b1:decide ((128:Int)≤(b.toNat:Int))=false:=by simp;omega
   simp only[b1,cond_false]
   rw[if_neg (by omega)];rfl
 ·have e3:(decide ((224:Int)≤(a.toNat:Int))&&decide ((a.toNat:Int)<240))=false:=by simp;omega
  simp only[e3,Bool.false_and,cond_false,if_neg c3];rfl
theorem zaky (l:List UInt8):(dcd l).2≤l.length:=by
 unfold dcd
 split
 ·simp
 ·rename_i a r
  split
  ·simp
  ·split
   ·split
    ·split<;>simp
    ·simp
   ·split
    ·split
     ·split<;>simp
     ·simp
    ·simp
theorem zadb (n:Nat) {s:List UInt8} {i:Nat} (hi:i<s.length):vldN (n+1) (s.drop i)=if (dcd (s.drop i)).2=0 then false else vldN n (s.drop (i+(dcd (s.drop i)).2)):=by
 have:s.drop i≠[]:=by simp;omega
 simp only[vldN,this,if_false,List.drop_drop]
theorem zamm {s:List UInt8} (hs:s.length<1000000000):qao s=some (vld s):=by
 have key:∀n i,s.length-i≤n→i≤s.length→za1 zoe (n+1) (s,(i:Int),())=some (if vldN n (s.drop i) then .inl () else .inr (false,())):=by
  intro n
  induction n with
  |zero=>
   intro i h1 h2
   have:i=s.length:=by omega
   subst this
   simp only[za1,zoe,dge,cond_false,vldN,if_true]
  |succ n ih=>
   intro i h1 h2
   rw[za1]
   by_cases hi:i<s.length
   ·rw[zadb n hi]
    have hle:=zaky (s.drop i)
    rw[List.length_drop]at hle
    simp only[zoe,dlt hi,cond_true,z9y hi hs,dcdI]
    by_cases h0:(dcd (s.drop i)).2=0
    ·simp[h0]
    ·have hb:(((dcd (s.drop i)).2:Int)==0)=false:=by simp;omega
     have hw:wr .i64 ((i:Int)+((dcd (s.drop i)).2:Int))=((i+(dcd (s.drop i)).2:Nat):Int):=by rw[zco (by omega) (by omega)];rfl
     simp only[hb,cond_false,hw,h0,if_false]
     exact ih _ (by omega) (by omega)
   ·have:i=s.length:=by omega
    subst this
    simp[zoe,vldN]
 unfold qao
 have:=key s.length 0 (by omega) (by omega)
 rw[show ((0:Int))=((0:Nat):Int) from rfl,zbd (s.length+1) (by rw[za4];omega) this]
 simp only[List.drop_zero]
 unfold vld
 cases vldN s.length s<;>rfl
theorem za49 {s:List UInt8} {i:Nat} (hi:i<s.length) (hs:s.length<1000000000):qf s (i:Int)=some ((wid (s.drop i):Nat):Int):=by
 unfold qf wid
 rw[z9y hi hs]
 show some (if (((dcd (s.drop i)).2:Nat):Int)<1 then (1:Int) else (((dcd (s.drop i)).2:Nat):Int))=_
 rw[Option.some.injEq]
 by_cases h:(dcd (s.drop i)).2<1
 ·rw[if_pos h,if_pos (by omega)];rfl
 ·rw[if_neg h,if_neg (by omega)]
theorem za4x {l:List UInt8} (h:l≠[]):1≤wid l∧wid l≤l.length:=by
 have:=zaky l
 have:0<l.length:=List.length_pos_iff.2 h
 unfold wid
 split<;>omega
theorem z5b (n:Nat) {s:List UInt8} {i:Nat} (hi:i<s.length) {out:List UInt8} {gap:Bool}:clnN (n+1) (s.drop i) out gap =
 if blk (dcd (s.drop i)).1 then clnN n (s.drop (i+wid (s.drop i))) out true else clnN n (s.drop (i+wid (s.drop i))) ((if gap&&!(out==[]) then out++[32] else out)++(s.drop i).take (wid (s.drop i))) false:=by
 have:s.drop i≠[]:=by simp;omega
 rw[clnN,if_neg this,List.drop_drop]
theorem za2p {s:List UInt8} (hs:s.length<100000000):qa5 s=some (cln s):=by
 have key:∀n i (out:List UInt8) (gap:Bool),s.length-i≤n→i≤s.length→out.length≤2*i→za1 zoa (n+1) (s,out,gap,(i:Int),())=some (clnN n (s.drop i) out gap,()):=by
  intro n
  induction n with
  |zero=>
   intro i out gap h1 h2 h3
   have:i=s.length:=by omega
   subst this
   simp only[za1,zoa,dge,cond_false,clnN]
  |succ n ih=>
   intro i out gap h1 h2 h3
   rw[za1]
   by_cases hi:i<s.length
   ·rw[z5b n hi]
    have hw0:=za4x (l:=s.drop i) (by simp;omega)
    rw[List.length_drop]at hw0
    obtain ⟨k,hk⟩:∃k,wid (s.drop i)=k:=⟨_,rfl⟩
    rw[hk]at hw0 ⊢
    have hw:wr .i64 ((i:Int)+(k:Int))=((i+k:Nat):Int):=by rw[zco (by omega) (by omega)];rfl
    have hb:qak ((dcd (s.drop i)).1:Int)=some (blk (dcd (s.drop i)).1):=by
     unfold qak
     simp -zeta only[k_or]
     simp only[Option.some.injEq,blk]
     rw[Bool.eq_iff_iff];simp;omega
    simp only[zoa,dlt hi,cond_true,z9y hi (show s.length<1000000000 by omega),za49 hi (show s.length<1000000000 by omega),dcdI,hb,hk,hw]
    cases blk (dcd (s.drop i)).1 with
    |true=>simp only[cond_true,if_true];exact ih _ _ _ (by omega) (by omega) (by omega)
    |false=>
     have hc:(decide ((0:Int)≤(i:Int))&&(decide ((i:Int)≤((i+k:Nat):Int))&&decide (((i+k:Nat):Int)≤(s.length:Int))))=true:=by simp;omega
     have ht:(s.take (i+k)).drop i=(s.drop i).take k:=by rw[List.drop_take];congr 1;omega
     simp only[cond_false,hc,cond_true,Int.toNat_natCast,ht,Bool.false_eq_true,if_false]
     have hlen:∀o:List UInt8,o.length≤2*i+1→decide (o.length+((s.drop i).take k).length≤LIM)=true:=fun o ho=>by
      rw[zaiy];simp only[List.length_take,List.length_drop,decide_eq_true_eq];omega
     cases hg:(gap&&!(out==[])) with
     |true=>
      simp only[Bool.and_eq_true,Bool.not_eq_true']at hg
      have h32:decide (out.length+([32]:List Nat).length≤LIM)=true:=by rw[zaiy];simp;omega
      simp only[hg.1,hg.2,hc,ht,Int.toNat_natCast,cond_true,Bool.not_false,h32,hlen (out++[32]) (by simp;omega),if_true]
      exact ih _ _ _ (by omega) (by omega) (by simp;omega)
     |false=>
      cases gap with
      |false=>
       simp only[cond_false,hlen out (by omega),cond_true,Bool.false_eq_true,if_false]
       exact ih _ _ _ (by omega) (by omega) (by simp;omega)
      |true=>
       simp only[Bool.true_and]at hg
       simp only[cond_true,hg,cond_false,hlen out (by omega),Bool.false_eq_true,if_false]
       exact ih _ _ _ (by omega) (by omega) (by simp;omega)
   ·have:i=s.length:=by omega
    subst this
    simp[zoa,clnN]
 unfold qa5
 have:=key s.length 0 [] false (by omega) (by omega) (by simp)
 rw[show ((0:Int))=((0:Nat):Int) from rfl,zbd (s.length+1) (by rw[za4];omega) this]
 try rfl
end Go.Proofs.YtdahfgialanmpaaGreatDoor
namespace Go.Proofs.YtdahfgialanmpaaGreatDoor
open Ev
open Go (IntKind)
def rng (lo hi n:Int):Bool:=decide (lo≤n)&&decide (n≤hi)
theorem z91 (n:Int):qd7 n=some (rng 0 109572 n):=by
 unfold qd7
 simp -zeta only[k_or,za7]
 try rfl
theorem zam9 (n:Int):qdn n=some (rng 0 109572 n):=by
 unfold qdn
 simp -zeta only[k_or,za7]
 try rfl
theorem zam2 (n:Int):qc4 n=some (rng 1 9999 n):=by
 unfold qc4
 simp -zeta only[k_or,za7]
 try rfl
theorem za26 (n lo hi:Int):qbk n lo hi=some (rng lo hi n):=by
 unfold qbk
 simp -zeta only[k_or,za7]
 try rfl
def zcb (l:List Charge) (i:Nat) (x:Charge):Int:=
 bif zbt l i (fun y=>decide (x.ID≤y.ID)) then 7
 else bif decide (x.ID<1)||decide (99999<x.ID)||decide (x.Patron<1)||decide (9999<x.Patron)||decide (x.Item<1)||decide (9999<x.Item)||!(rng 0 109572 x.Day) then 2
 else bif decide (x.Kind<1)||decide (3<x.Kind) then 1
 else bif decide (x.Amount<1)||decide (100000000<x.Amount)||decide (x.Paid<0)||decide (x.Amount≤x.Paid) then 2 else 0
def za3 (l:List Charge):Int:=bif decide (128<(l.length:Int)) then 13 else zb9 (zcb l) 0 l
theorem z2z {l:List Charge} (hl:l.length<1000000000):zad zll (l,0,())=some (if zb9 (zcb l) 0 l==0 then .inl () else .inr (zb9 (zcb l) 0 l,())):=by
 have h:=zd7 (step:=zll) (fun i=>(l,(i:Int),())) l (zcb l) (.inl ()) (fun e=>.inr (e,())) hl
  (by simp only[zll,dge,cond_false])
  (fun i x hx=>by
   have hi:=(List.getElem?_eq_some_iff.1 hx).1
   have hxm:=List.mem_of_getElem? hx
   unfold zcb
   simp only[zdh]
   rcases i with _|j
   ·simp -zeta only[zll,dlt hi,zag,hx,k_or,za7,zvj,cond_false,cond_true,zbt,zam (show 0<9223372036854775807 by omega),z91]
    try rfl
   ·have hj:l[j]?=some l[j]:=List.getElem?_eq_getElem (by omega)
    simp -zeta only[zll,dlt hi,zag,hx,k_or,za7,dpos,zfn (show j<1000000000 by omega),hj,cond_false,cond_true,zbt,zam (show j+1<9223372036854775807 by omega),z91]
    rfl)
 exact h
theorem zamo {l:List Charge} (hl:l.length<1000000000):qar l=some (za3 l):=by
 unfold qar za3
 rw[z2z hl]
 generalize zb9 (zcb l) 0 l=e
 cases decide (128<(l.length:Int)) with
 |true=>rfl
 |false=>
  by_cases h:e=0
  ·subst h;rfl
  ·have h2:(e==0)=false:=by simpa using h
   simp only[h2,Bool.false_eq_true,if_false,cond_false]
def zfa (l:List Patron) (i:Nat) (x:Patron):Int:=
 bif decide (x.ID<1)||decide (9999<x.ID) then 2
 else bif zbt l i (fun y=>decide (x.ID≤y.ID)) then 7
 else bif decide (x.Kind<1)||decide (9<x.Kind)||decide (x.Branch<1)||decide (4<x.Branch) then 1
 else bif decide (x.Until<0)||decide (109572<x.Until) then 2
 else bif x.Name==[]||!(vld x.Name)||!(cln x.Name==x.Name) then 3
 else bif decide (200<(x.Name.length:Int)) then 4 else 0
def zfb (l:List Patron):Int:=bif decide (32<(l.length:Int)) then 13 else zb9 (zfa l) 0 l
theorem z23 {l:List Patron} (hl:l.length<1000000000) (hn:∀x∈l,x.Name.length<10000000):zad zln (l,0,())=some (if zb9 (zfa l) 0 l==0 then .inl () else .inr (zb9 (zfa l) 0 l,())):=by
 have h:=zd7 (step:=zln) (fun i=>(l,(i:Int),())) l (zfa l) (.inl ()) (fun e=>.inr (e,())) hl
  (by simp only[zln,dge,cond_false])
  (fun i x hx=>by
   have hi:=(List.getElem?_eq_some_iff.1 hx).1
   have hxm:=List.mem_of_getElem? hx
   have hv:=zamm (s:=x.Name) (by have:=hn x hxm;omega)
   have hc:=za2p (s:=x.Name) (by have:=hn x hxm;omega)
   unfold zfa
   simp only[zdh]
   rcases i with _|j
   ·simp -zeta only[zln,dlt hi,zag,hx,k_or,za7,zvj,cond_false,cond_true,zbt,zam (show 0<9223372036854775807 by omega),hv,hc]
    try rfl
   ·have hj:l[j]?=some l[j]:=List.getElem?_eq_getElem (by omega)
    simp -zeta only[zln,dlt hi,zag,hx,k_or,za7,dpos,zfn (show j<1000000000 by omega),hj,cond_false,cond_true,zbt,zam (show j+1<9223372036854775807 by omega),hv,hc]
    rfl)
 exact h
theorem za20 {l:List Patron} (hl:l.length<1000000000) (hn:∀x∈l,x.Name.length<10000000):qau l=some (zfb l):=by
 unfold qau zfb
 rw[z23 hl hn]
 generalize zb9 (zfa l) 0 l=e
 cases decide (32<(l.length:Int)) with
 |true=>rfl
 |false=>
  by_cases h:e=0
  ·subst h;rfl
  ·have h2:(e==0)=false:=by simpa using h
   simp only[h2,Bool.false_eq_true,if_false,cond_false]
def zh8 (l:List Loan) (i:Nat) (x:Loan):Int:=
 bif zbt l i (fun y=>decide (x.Item≤y.Item)) then 7
 else bif decide (x.Item<1)||decide (9999<x.Item)||decide (x.Patron<1)||decide (9999<x.Patron)||decide (x.Out<0)||decide (109572<x.Out)||decide (x.Due<0)||decide (109572<x.Due)||decide (x.Due<x.Out)||decide (x.Renewals<0)||decide (10<x.Renewals) then 2 else 0
def zhi (l:List Loan):Int:=bif decide (64<(l.length:Int)) then 13 else zb9 (zh8 l) 0 l
theorem z22 {l:List Loan} (hl:l.length<1000000000):zad zlm (l,0,())=some (if zb9 (zh8 l) 0 l==0 then .inl () else .inr (zb9 (zh8 l) 0 l,())):=by
 have h:=zd7 (step:=zlm) (fun i=>(l,(i:Int),())) l (zh8 l) (.inl ()) (fun e=>.inr (e,())) hl
  (by simp only[zlm,dge,cond_false])
  (fun i x hx=>by
   have hi:=(List.getElem?_eq_some_iff.1 hx).1
   have hxm:=List.mem_of_getElem? hx
   unfold zh8
   simp only[zdh]
   rcases i with _|j
   ·simp -zeta only[zlm,dlt hi,zag,hx,k_or,za7,zvj,cond_false,cond_true,zbt,zam (show 0<9223372036854775807 by omega)]
    try rfl
   ·have hj:l[j]?=some l[j]:=List.getElem?_eq_getElem (by omega)
    simp -zeta only[zlm,dlt hi,zag,hx,k_or,za7,dpos,zfn (show j<1000000000 by omega),hj,cond_false,cond_true,zbt,zam (show j+1<9223372036854775807 by omega)]
    rfl)
 exact h
theorem za2z {l:List Loan} (hl:l.length<1000000000):qat l=some (zhi l):=by
 unfold qat zhi
 rw[z22 hl]
 generalize zb9 (zh8 l) 0 l=e
 cases decide (64<(l.length:Int)) with
 |true=>rfl
 |false=>
  by_cases h:e=0
  ·subst h;rfl
  ·have h2:(e==0)=false:=by simpa using h
   simp only[h2,Bool.false_eq_true,if_false,cond_false]
def zbo (h:Hold):Int:=
 bif decide (h.ID<1)||decide (99999<h.ID)||!(rng 1 9999 h.Patron)||!(rng 1 9999 h.Record)||!(h.Item==0)&&!(rng 1 9999 h.Item)||decide (h.Pickup<1)||decide (4<h.Pickup)||!(rng 0 109572 h.Placed)||!(h.Got==0)&&!(rng 1 9999 h.Got)||!(rng 0 109572 h.Until)||!(rng 0 109572 h.Asleep)||decide (h.Rank<0)||decide (9<h.Rank) then 2
 else bif decide (h.State<1)||decide (3<h.State) then 1
 else bif !((decide (0<h.Got))==(!(h.State==1)))||!((decide (0<h.Until))==(h.State==3)) then 12 else 0
theorem zam7 (h:Hold):qd0 h=some (zbo h):=by
 unfold qd0 zbo
 simp -zeta only[k_or,za7,zam2,zam9,←zc4]
 try rfl
def zdi (l:List Hold) (i:Nat) (x:Hold):Int:=
 bif zbt l i (fun y=>decide (x.ID≤y.ID)) then 7 else bif !(zbo x==0) then zbo x else 0
theorem z99 {l:List Hold} (hl:l.length<1000000000):zad zwh (l,0,())=some (if zb9 (zdi l) 0 l==0 then .inl (l,()) else .inr (zb9 (zdi l) 0 l,())):=by
 have h:=zd7 (step:=zwh) (fun i=>(l,(i:Int),())) l (zdi l) (.inl (l,())) (fun e=>.inr (e,())) hl
  (by simp only[zwh,dge,cond_false])
  (fun i x hx=>by
   have hi:=(List.getElem?_eq_some_iff.1 hx).1
   have hxm:=List.mem_of_getElem? hx
   have hs:∀(a:List Hold×Int×Unit) (g:Int→((List Hold×Unit)⊕(Int×Unit))),(bif !(zbo x==0) then zgn a g (zbo x) else zgn a g 0)=bif !(zbo x==0) then some (.inr (g (zbo x))) else some (.inl a):=fun a g=>by
    unfold zgn
    cases zbo x==0<;>rfl
   unfold zdi
   simp only[zdh,hs]
   rcases i with _|j
   ·simp -zeta only[zwh,dlt hi,zag,hx,k_or,za7,zvj,cond_false,cond_true,zbt,zam (show 0<9223372036854775807 by omega),zam7]
    try rfl
   ·have hj:l[j]?=some l[j]:=List.getElem?_eq_getElem (by omega)
    simp -zeta only[zwh,dlt hi,zag,hx,k_or,za7,dpos,zfn (show j<1000000000 by omega),hj,cond_false,cond_true,zbt,zam (show j+1<9223372036854775807 by omega),zam7]
    rfl)
 exact h
def ze7 (x y:Hold):Bool:=x.Patron==y.Patron&&x.Record==y.Record||decide (0<x.Got)&&x.Got==y.Got
theorem z3a {l:List Hold} {i:Nat} {x:Hold} (hl:l.length<1000000000) (hx:l[i]?=some x):zad zl3 (l,(i:Int),0,())=some (bif (l.take i).all (fun y=>!(ze7 x y)) then .inl (l,(i:Int),()) else .inr (7,())):=by
 have hi:=(List.getElem?_eq_some_iff.1 hx).1
 have h:=zav (step:=zl3) (fun k=>(l,(i:Int),(k:Int),())) (l.take i) (fun _ y=>!(ze7 x y)) (.inr (7,())) (.inl (l,(i:Int),())) (by rw[List.length_take];omega)
  (by rw[List.length_take,Nat.min_eq_left (by omega)];simp only[zl3,dge,cond_false])
  (fun k y hy=>by
   have hk:=(List.getElem?_eq_some_iff.1 hy).1
   rw[List.length_take]at hk
   have hy2:l[k]?=some y:=by rw[←hy,List.getElem?_take_of_lt (by omega)]
   simp -zeta only[zl3,dlt (show k<i by omega),zag,hx,hy2,k_or,za7,cond_true,zam (show k<9223372036854775807 by omega)]
   dsimp only
   unfold ze7
   cases (x.Patron==y.Patron&&x.Record==y.Record||decide (0<x.Got)&&x.Got==y.Got)<;>rfl)
 rw[show zad zl3 (l,(i:Int),0,())=_ from h,zay]
def zh5 (l:List Hold):Bool:=zc9 (fun i x=>(l.take i).all (fun y=>!(ze7 x y))) 0 l
theorem z29 {l:List Hold} (hl:l.length<1000000000):zad zor (l,0,())=some (bif zh5 l then .inl () else .inr (7,())):=by
 have h:=zav (step:=zor) (fun i=>(l,(i:Int),())) l (fun i x=>(l.take i).all (fun y=>!(ze7 x y))) (.inr (7,())) (.inl ()) hl
  (by simp only[zor,dge,cond_false])
  (fun i x hx=>by
   have hi:=(List.getElem?_eq_some_iff.1 hx).1
   simp only[zor,dlt hi,cond_true,z3a hl hx]
   cases (l.take i).all (fun y=>!(ze7 x y)) with
   |true=>simp only[cond_true,zam (show i<9223372036854775807 by omega)]
   |false=>rfl)
 exact h
def zd3 (l:List Hold):Int:=bif decide (64<(l.length:Int)) then 13 else bif zb9 (zdi l) 0 l==0 then (bif zh5 l then 0 else 7) else zb9 (zdi l) 0 l
theorem za5c {l:List Hold} (hl:l.length<1000000000):qm l=some (zd3 l):=by
 unfold qm zd3
 rw[z99 hl]
 cases decide (64<(l.length:Int)) with
 |true=>rfl
 |false=>
  by_cases h:zb9 (zdi l) 0 l=0
  ·simp only[h,beq_self_eq_true,if_true,cond_false,cond_true,z29 hl]
   cases zh5 l<;>rfl
  ·have:(zb9 (zdi l) 0 l==0)=false:=by simpa using h
   simp only[this,Bool.false_eq_true,if_false,cond_false]
def zis (r:Rule):Bool:=rng 0 9 r.Patron&&rng 0 9 r.Item&&rng 0 4 r.Branch&&(rng 0 365 r.Days&&rng 0 10 r.Renewals&&rng 0 99 r.Loans)&&(rng 0 1000 r.Fine&&rng 0 30 r.Grace&&rng 0 100000000 r.MaxFine)&&rng 1 60 r.Shelf&&rng 1 60 r.Recall&&rng 0 109572 r.Fixed&&rng 0 9 r.Rank
theorem za3d (r:Rule):qcz r=some (zis r):=by
 unfold qcz zis
 simp -zeta only[k_or,za7,za26]
 try rfl
def zho (x y:Rule):Bool:=x.Patron==y.Patron&&x.Item==y.Item&&x.Branch==y.Branch
def zgy (l:List Rule) (i:Nat) (x:Rule):Int:=bif !(zis x) then 2 else bif (l.take i).all (fun y=>!(zho y x)) then 0 else 7
theorem z98 {l:List Rule} {i:Nat} {x:Rule} (hl:l.length<1000000000) (hx:l[i]?=some x):zad zwf (l,(i:Int),0,())=some (bif (l.take i).all (fun y=>!(zho y x)) then .inl (l,(i:Int),()) else .inr (7,())):=by
 have hi:=(List.getElem?_eq_some_iff.1 hx).1
 have h:=zav (step:=zwf) (fun k=>(l,(i:Int),(k:Int),())) (l.take i) (fun _ y=>!(zho y x)) (.inr (7,())) (.inl (l,(i:Int),())) (by rw[List.length_take];omega)
  (by rw[List.length_take,Nat.min_eq_left (by omega)];simp only[zwf,dge,cond_false])
  (fun k y hy=>by
   have hk:=(List.getElem?_eq_some_iff.1 hy).1
   rw[List.length_take]at hk
   have hy2:l[k]?=some y:=by rw[←hy,List.getElem?_take_of_lt (by omega)]
   simp -zeta only[zwf,dlt (show k<i by omega),zag,hx,hy2,k_or,za7,cond_true,zam (show k<9223372036854775807 by omega)]
   dsimp only
   unfold zho
   cases (y.Patron==x.Patron&&y.Item==x.Item&&y.Branch==x.Branch)<;>rfl)
 rw[show zad zwf (l,(i:Int),0,())=_ from h,zay]
theorem z97 {l:List Rule} (hl:l.length<1000000000):zad z28 (l,0,())=some (if zb9 (zgy l) 0 l==0 then .inl () else .inr (zb9 (zgy l) 0 l,())):=by
 have h:=zd7 (step:=z28) (fun i=>(l,(i:Int),())) l (zgy l) (.inl ()) (fun e=>.inr (e,())) hl
  (by simp only[z28,dge,cond_false])
  (fun i x hx=>by
   have hi:=(List.getElem?_eq_some_iff.1 hx).1
   unfold zgy
   simp only[zdh,z28,dlt hi,zag,hx,cond_true,za3d,z98 hl hx]
   cases zis x with
   |false=>rfl
   |true=>
    simp only[Bool.not_true,cond_false]
    cases (l.take i).all (fun y=>!(zho y x)) with
    |true=>simp only[cond_true,zam (show i<9223372036854775807 by omega)];rfl
    |false=>rfl)
 exact h
def zge (l:List Rule):Int:=bif decide (32<(l.length:Int)) then 13 else zb9 (zgy l) 0 l
theorem za5b {l:List Rule} (hl:l.length<1000000000):qk l=some (zge l):=by
 unfold qk zge
 rw[z97 hl]
 generalize zb9 (zgy l) 0 l=e
 cases decide (32<(l.length:Int)) with
 |true=>rfl
 |false=>
  by_cases h:e=0
  ·subst h;rfl
  ·have h2:(e==0)=false:=by simpa using h
   simp only[h2,Bool.false_eq_true,if_false,cond_false]
def incr (l:List Int):Bool:=zc9 (fun i x=>!(zbt l i (fun y=>decide (x≤y)))) 0 l
theorem zuq {X:Type} {p:Nat→X→Bool}:∀{l:List X} {i:Nat},zc9 p (i+1) l=zc9 (fun i=>p (i+1)) i l:=by
 intro l
 induction l with
 |nil=>intros;rfl
 |cons x l ih=>intro i;simp only[zc9];rw[ih]
theorem z7l (l:List Int):incr l=zc9 (fun i x=>!(zbt l (i+1) (fun y=>decide (x≤y)))) 0 l.tail:=by
 cases l with
 |nil=>rfl
 |cons x l=>
  unfold incr
  simp only[zc9,List.tail_cons]
  rw[zuq]
  try rfl
def zcj (c:Calendar):Int:=
 bif decide (c.Week<0)||decide (126<c.Week) then 1
 else bif decide (64<(c.Closed.length:Int)) then 13
 else bif c.Closed.all (fun x=>!(decide (x<0)||decide (109572<x))) then (bif incr c.Closed then 0 else 7) else 2
theorem zaaa {c:Calendar} (hl:c.Closed.length<1000000000):zad zwj (0,c,())=some (bif c.Closed.all (fun x=>!(decide (x<0)||decide (109572<x))) then .inl (c,()) else .inr (2,())):=by
 have h:=zav (step:=zwj) (fun i=>((i:Int),c,())) c.Closed (fun _ x=>!(decide (x<0)||decide (109572<x))) (.inr (2,())) (.inl (c,())) hl
  (by simp only[zwj,dge,cond_false])
  (fun i x hx=>by
   have hi:=(List.getElem?_eq_some_iff.1 hx).1
   simp -zeta only[zwj,dlt hi,zag,hx,k_or,za7,cond_true,zam (show i<9223372036854775807 by omega)]
   cases (decide (x<0)||decide (109572<x))<;>rfl)
 rw[show zad zwj (0,c,())=_ from h,zay]
theorem z3d {c:Calendar} (hl:c.Closed.length<1000000000):zad zl4 (1,c,())=some (bif incr c.Closed then .inl () else .inr (7,())):=by
 have h:=zav (step:=zl4) (fun i=>(((i+1:Nat):Int),c,())) c.Closed.tail (fun i x=>!(zbt c.Closed (i+1) (fun y=>decide (x≤y)))) (.inr (7,())) (.inl ()) (by rw[List.length_tail];omega)
  (by
   rw[List.length_tail]
   have:decide (((c.Closed.length-1+1:Nat):Int)<(c.Closed.length:Int))=false:=by rw[decide_eq_false_iff_not];omega
   simp only[zl4,this,cond_false])
  (fun i x hx=>by
   rw[List.getElem?_tail]at hx
   have hi:=(List.getElem?_eq_some_iff.1 hx).1
   have hj:c.Closed[i]?=some c.Closed[i]:=List.getElem?_eq_getElem (by omega)
   simp -zeta only[zl4,dlt hi,zag,hx,cond_true,zfn (show i<1000000000 by omega),hj,zbt,zam (show i+1<9223372036854775807 by omega)]
   cases decide (x≤c.Closed[i])<;>rfl)
 rw[show zad zl4 (1,c,())=_ from h,z7l]
theorem zaab {c:Calendar} (hl:c.Closed.length<1000000000):qu c=some (zcj c):=by
 unfold qu zcj
 simp -zeta only[k_or]
 dsimp only
 rw[zaaa hl]
 cases (decide (c.Week<0)||decide (126<c.Week)) with
 |true=>rfl
 |false=>
  cases decide (64<(c.Closed.length:Int)) with
  |true=>rfl
  |false=>
   cases c.Closed.all (fun x=>!(decide (x<0)||decide (109572<x))) with
   |false=>rfl
   |true=>
    simp only[cond_false,cond_true,z3d hl]
    cases incr c.Closed<;>rfl
end Go.Proofs.YtdahfgialanmpaaGreatDoor
namespace Go.Proofs.YtdahfgialanmpaaGreatDoor
open Ev
open Go (IntKind)
def zavs (state:Int):Bool:=(state==4||state==5||state==8||state==9||state==10)
theorem zl2 (state:Int):qfn state=some (zavs state):=by
 unfold qfn
 try simp -zeta only[k_or,za7,zh6,zc4,cond_true,cond_false]
 try dsimp only
 try simp only[zc4]
 try rfl
def zi5 (c:Custody):Bool:=(bif decide (c.State<1)||decide (12<c.State)||decide (c.Branch<1)||decide (4<c.Branch) then false
 else
  bif c.State==6 then
   decide (0≤c.Who)&&decide (c.Who≤9999)&&decide (1≤c.To)&&decide (c.To≤4)&&!c.To==c.Branch
  else
   bif !c.To==0 then false
   else bif zavs c.State then decide (1≤c.Who)&&decide (c.Who≤9999) else c.Who==0)
theorem zl1 (c:Custody):qd2 c=some (zi5 c):=by
 unfold qd2
 try simp -zeta only[k_or,za7,zh6,zc4,cond_true,cond_false,zl2]
 try dsimp only
 try simp only[zc4]
 try rfl
def zi6 (m:Move):Bool:=(decide (0≤m.Day)&&decide (m.Day≤109572)&&decide (1≤m.Item)&&decide (m.Item≤9999)&&
 decide (1≤m.Kind)&&
 decide (m.Kind≤15)&&
 decide (1≤m.Branch)&&
 decide (m.Branch≤4)&&
 decide (0≤m.Who)&&
 decide (m.Who≤9999))
theorem zoq (m:Move):qez m=some (zi6 m):=by
 unfold qez
 try simp -zeta only[k_or,za7,zh6,zc4,cond_true,cond_false,zl2,zl1]
 try dsimp only
 try simp only[zc4]
 try rfl
def z93 (kind:Int):(List Int):=(bif kind==1 then [1]
 else
  bif kind==2 then [2,5]
  else
   bif kind==3 then [3,5]
   else
    bif kind==4 then [4,8,9,10]
    else
     bif kind==5||kind==8 then [2,3]
     else
      bif kind==6 then [2,3,5]
      else
       bif kind==7 then [6]
       else
        bif kind==9 then [7]
        else
         bif kind==10 then [3]
         else
          bif kind==11 then [4]
          else
           bif kind==12 then [4,9]
           else
            bif kind==13 then [2,3,5,6,7]
            else bif kind==14 then [11] else bif kind==15 then [1,2,3,11,10] else [])
theorem zt5 (kind:Int):qdk kind=some (z93 kind):=by
 unfold qdk
 try simp -zeta only[k_or,za7,zh6,zc4,cond_true,cond_false,zl2,zl1,zoq]
 try dsimp only
 try simp only[zc4]
 try rfl
def zc5 (kind:Int):Int:=(bif kind==1||(kind==4||(kind==7||(kind==9||kind==14))) then 2
 else
  bif kind==2 then 3
  else
   bif kind==3 then 4
   else
    bif kind==5 then 5
    else
     bif kind==6 then 6
     else
      bif kind==8 then 7
      else
       bif kind==10 then 8
       else bif kind==11 then 9 else bif kind==12 then 10 else bif kind==13 then 11 else 12)
theorem z0e (kind:Int):qfu kind=some (zc5 kind):=by
 unfold qfu
 try simp -zeta only[k_or,za7,zh6,zc4,cond_true,cond_false,zl2,zl1,zoq,zt5]
 try dsimp only
 try simp only[zc4]
 try rfl
def z95 (c:Custody) (m:Move):Bool:=(bif m.Kind==1||(m.Kind==4||(m.Kind==9||m.Kind==14)) then m.Who==0
 else
  bif m.Kind==7 then m.Who==0&&m.Branch==c.To
  else
   bif m.Kind==6 then !m.Branch==c.Branch
   else
    bif m.Kind==3||(m.Kind==5||m.Kind==10) then m.Branch==c.Branch&&decide (1≤m.Who)
    else m.Branch==c.Branch&&m.Who==0)
theorem z94 (c:Custody) (m:Move):qdm c m=some (z95 c m):=by
 unfold qdm
 try simp -zeta only[k_or,za7,zh6,zc4,cond_true,cond_false,zl2,zl1,zoq,zt5,z0e]
 try dsimp only
 try simp only[zc4]
 try rfl
def zwe (branch:Int):Custody:={State:=1,Branch:=branch,Who:=0,To:=0}
theorem zam8 (branch:Int):qd1 branch=some (zwe branch):=by
 unfold qd1
 try simp -zeta only[k_or,za7,zh6,zc4,cond_true,cond_false,zl2,zl1,zoq,zt5,z0e,z94]
 try dsimp only
 try simp only[zc4]
 try rfl
def zhl (u:Custody):Bool:=(u.State==4||u.State==9||u.State==10)
theorem z96 (u:Custody):qdt u=some (zhl u):=by
 unfold qdt
 try simp -zeta only[k_or,za7,zh6,zc4,cond_true,cond_false,zl2,zl1,zoq,zt5,z0e,z94,zam8]
 try dsimp only
 try simp only[zc4]
 try rfl
end Go.Proofs.YtdahfgialanmpaaGreatDoor
namespace Go.Proofs.YtdahfgialanmpaaGreatDoor
open Ev
open Go (IntKind)
theorem hasX {X:Type} {p:X→Bool}:∀{l:List X} {i:Nat},zet p (fun _ _=>true) false i l=l.any p:=by
 intro l
 induction l with
 |nil=>intros;rfl
 |cons x l ih=>intro i;simp only[zet,List.any_cons];cases p x with|true=>rfl|false=>rw[cond_false,ih,Bool.false_or]
def zjq (state kind:Int):Bool:=(z93 kind).any (fun x=>x==state)
theorem zafo {X:Type} {b:Bool} {x y:List X} {n:Nat} (hx:x.length<n) (hy:y.length<n):(bif b then x else y).length<n:=by cases b<;>assumption
theorem z3s (kind:Int):(z93 kind).length<10:=by
 unfold z93
 repeat' first|apply zafo|decide
theorem za2y (state kind:Int):qas state kind=some (zjq state kind):=by
 unfold qas zjq
 rw[zt5]
 have hl:=z3s kind
 generalize z93 kind=l at hl ⊢
 have h:=zbm (step:=zog) (fun i=>(state,l,(i:Int),())) l (fun x=>x==state) (fun _ _=>(.inr (true,()):Unit⊕(Bool×Unit))) (.inl ()) (by omega)
  (by simp only[zog,dge,cond_false])
  (fun i x hx=>by
   have hi:=(List.getElem?_eq_some_iff.1 hx).1
   simp only[zog,dlt hi,zag,hx,cond_true,zam (show i<9223372036854775807 by omega)])
 dsimp only
 rw[show zad zog (state,l,0,())=_ from h,←hasX (i:=0)]
 have key:∀(l:List Int) (i:Nat),(match some (zet (fun x=>x==state) (fun _ _=>(.inr (true,()):Unit⊕(Bool×Unit))) (.inl ()) i l) with|some (.inl _)=>some false|some (.inr (v,_))=>some v|none=>none)=some (zet (fun x=>x==state) (fun _ _=>true) false i l):=by
  intro l
  induction l with
  |nil=>intro i;rfl
  |cons x l ih=>intro i;simp only[zet];cases x==state with|true=>rfl|false=>exact ih _
 exact key l 0
def zbc (c:Custody) (m:Move):Custody×Int:=
 bif !(zi5 c)||!(zi6 m) then (⟨0,0,0,0⟩,1)
 else bif !(zjq c.State m.Kind) then (⟨0,0,0,0⟩,12)
 else bif m.Kind==3&&c.State==5&&!(m.Who==c.Who) then (⟨0,0,0,0⟩,16)
 else bif !(z95 c m) then (⟨0,0,0,0⟩,1)
 else bif zc5 m.Kind==2 then (⟨zc5 m.Kind,m.Branch,0,0⟩,0)
 else bif zc5 m.Kind==4||(zc5 m.Kind==5||zc5 m.Kind==8) then (⟨zc5 m.Kind,c.Branch,m.Who,0⟩,0)
 else bif zc5 m.Kind==6 then (⟨zc5 m.Kind,c.Branch,m.Who,m.Branch⟩,0)
 else bif zc5 m.Kind==9||zc5 m.Kind==10 then (⟨zc5 m.Kind,c.Branch,c.Who,0⟩,0)
 else (⟨zc5 m.Kind,c.Branch,0,0⟩,0)
theorem zam5 (c:Custody) (m:Move):qcj c m=some (zbc c m):=by
 unfold qcj zbc
 simp -zeta only[k_or,za7,zh6,zl1,zoq,za2y,z94,z0e]
 dsimp only
 simp only[zc4]
def zdk:Nat→List Move→Int→Custody→(Custody⊕(Int×Int))
 |_,[],_,c=>.inl c
 |i,x::l,item,c=>bif x.Item==item then (bif (zbc c x).2==0 then zdk (i+1) l item (zbc c x).1 else .inr ((i:Int),(zbc c x).2)) else zdk (i+1) l item c
def zef (branch:Int) (l:List Move) (item:Int):Custody×Int×Int:=
 bif decide (branch<1)||decide (4<branch) then (⟨0,0,0,0⟩,-1,1)
 else match zdk 0 l item (zwe branch) with
  |.inl c=>(c,-1,0)
  |.inr (i,e)=>(⟨0,0,0,0⟩,i,e)
theorem zwt {β:Type} (item:Int) (fin:Custody→β) (out:Int×Int→β):∀(l:List Move) (i:Nat) (c:Custody),
 zc7 (fun i x c=>bif x.Item==item then (bif (zbc c x).2==0 then .inl (zbc c x).1 else .inr (out ((i:Int),(zbc c x).2))) else .inl c) fin i l c=(match zdk i l item c with | .inl c=>fin c | .inr p=>out p):=by
 intro l
 induction l with
 |nil=>intros;rfl
 |cons x l ih=>
  intro i c
  simp only[zc7,zdk]
  cases x.Item==item with
  |false=>exact ih _ _
  |true=>
   simp only[cond_true]
   cases (zbc c x).2==0 with
   |true=>exact ih _ _
   |false=>rfl
theorem za2x {branch:Int} {l:List Move} {item:Int} (hl:l.length<1000000000):qap branch l item=some (zef branch l item):=by
 unfold qap zef
 simp -zeta only[k_or,zam8]
 dsimp only
 have h:=zdp (step:=zof) (fun i c=>(l,item,(i:Int),(⟨0,0,0,0⟩:Custody),c,())) l
  (fun i x c=>bif x.Item==item then (bif (zbc c x).2==0 then .inl (zbc c x).1 else .inr (.inr ((i:Int),(zbc c x).2,(⟨0,0,0,0⟩:Custody),()))) else .inl c)
  (fun c=>.inl (⟨0,0,0,0⟩,c,())) (by show l.length<18446744073709551616;omega) (fun c=>by simp only[zof,dge,cond_false])
  (fun i x c hx=>by
   have hi:=(List.getElem?_eq_some_iff.1 hx).1
   simp only[zof,dlt hi,zag,hx,cond_true,zam5,zam (show i<9223372036854775807 by omega)]
   cases x.Item==item with
   |false=>rfl
   |true=>
    simp only[Bool.not_true,cond_false,cond_true]
    obtain ⟨d,e⟩:=zbc c x
    cases he:e==0 with
    |true=>rfl
    |false=>rfl) (zwe branch)
 rw[zwt item (fun c=>(.inl (⟨0,0,0,0⟩,c,()):(Custody×Custody×Unit)⊕(Int×Int×Custody×Unit))) (fun p=>.inr (p.1,p.2,(⟨0,0,0,0⟩:Custody),()))]at h
 rw[show zad zof (l,item,0,(⟨0,0,0,0⟩:Custody),zwe branch,())=_ from h]
 cases (decide (branch<1)||decide (4<branch)) with
 |true=>rfl
 |false=>
  simp only[cond_false]
  cases zdk 0 l item (zwe branch) with
  |inl c=>rfl
  |inr p=>rfl
end Go.Proofs.YtdahfgialanmpaaGreatDoor
namespace Go.Proofs.YtdahfgialanmpaaGreatDoor
open Ev
open Go (IntKind)
theorem zbf {X:Type} (p:X→Bool) (l:List X):(fIdx p l = -1∧l.find? p=none)∨∃(i:Nat) (x:X),fIdx p l=(i:Int)∧l[i]?=some x∧p x=true∧l.find? p=some x:=by
 unfold fIdx
 induction l with
 |nil=>exact .inl ⟨rfl,rfl⟩
 |cons y l ih=>
  simp only[List.findIdx?_cons,List.find?_cons]
  cases hp:p y with
  |true=>exact .inr ⟨0,y,rfl,rfl,hp,rfl⟩
  |false=>
   simp only[Bool.false_eq_true,if_false]
   rcases ih with ⟨h1,h2⟩|⟨i,x,h1,h2,h3,h4⟩
   ·left
    refine ⟨?_,h2⟩
    cases hf:l.findIdx? p with
    |none=>rfl
    |some k=>rw[hf]at h1;simp only at h1;omega
   ·right
    refine ⟨i+1,x,?_,by simpa using h2,h3,h4⟩
    cases hf:l.findIdx? p with
    |none=>rw[hf]at h1;simp only at h1;omega
    |some k=>rw[hf]at h1;simp only[Option.map_some]at h1 ⊢;omega
theorem zpv:decide ((-1:Int)<0)=true:=rfl
theorem zh0 {i:Nat}:decide ((i:Int)<0)=false:=by rw[decide_eq_false_iff_not];omega
def getP (l:List Patron) (id:Int):Patron×Bool:=match l.find? (fun p=>p.ID==id) with|some p=>(p,true)|none=>(⟨0,0,0,0,false,[]⟩,false)
def zr4 (l:List Loan) (item:Int):Loan×Bool:=match l.find? (fun n=>n.Item==item) with|some n=>(n,true)|none=>(⟨0,0,0,0,0,false⟩,false)
def zn5:Hold:=⟨0,0,0,0,0,0,0,0,0,0,0⟩
def zbp (c:Circ) (item:Int):Hold×Bool:=match c.Holds.find? (fun h=>h.Got==item) with|some h=>(h,true)|none=>(zn5,false)
theorem zaia {c:Circ} {item:Int} (hl:c.Items.length<1000000000):qi c item=some (fIdx (fun x=>x.ID==item) c.Items):=by
 unfold qi
 have h:=zbm (step:=z27) (fun i=>(item,(i:Int),c,())) c.Items (fun x=>x.ID==item) (fun i _=>(.inr ((i:Int),()):Unit⊕(Int×Unit))) (.inl ()) hl
  (by simp only[z27,dge,cond_false])
  (fun i x hx=>by
   have hi:=(List.getElem?_eq_some_iff.1 hx).1
   simp only[z27,dlt hi,zag,hx,cond_true,zam (show i<9223372036854775807 by omega)])
 rw[show zad z27 (item,0,c,())=_ from h,←zc0]
 have:=zcc (p:=fun x:Item=>x.ID==item) (g:=fun i _=>(.inr ((i:Int),()):Unit⊕(Int×Unit))) (d:=.inl ()) (fun z=>match (some z:Option (Unit⊕(Int×Unit))) with|some (.inl _)=>some (-1)|some (.inr (v,_))=>some v|none=>none) (l:=c.Items) (i:=0)
 exact this.trans ((zcc (p:=fun x:Item=>x.ID==item) (g:=fun i _=>(i:Int)) (d:=-1) (fun z=>some z) (l:=c.Items) (i:=0)).symm)
theorem zqu {c:Circ} {item:Int} (hl:c.Items.length<1000000000):(qi c item=some (-1)∧c.Items.find? (fun x=>x.ID==item)=none)∨
 ∃(i:Nat) (x:Item),qi c item=some (i:Int)∧c.Items[i]?=some x∧x.ID=item∧c.Items.find? (fun x=>x.ID==item)=some x:=by
 rw[zaia hl]
 rcases zbf (fun x:Item=>x.ID==item) c.Items with ⟨h1,h2⟩|⟨i,x,h1,h2,h3,h4⟩
 ·exact .inl ⟨by rw[h1],h2⟩
 ·exact .inr ⟨i,x,by rw[h1],h2,by simpa using h3,h4⟩
theorem za2o {l:List Patron} {id:Int} (hl:l.length<1000000000):qa0 l id=some (fIdx (fun x=>x.ID==id) l):=by
 unfold qa0
 have h:=zbm (step:=zn7) (fun i=>(l,id,(i:Int),())) l (fun x=>x.ID==id) (fun i _=>(.inr ((i:Int),()):Unit⊕(Int×Unit))) (.inl ()) hl
  (by simp only[zn7,dge,cond_false])
  (fun i x hx=>by
   have hi:=(List.getElem?_eq_some_iff.1 hx).1
   simp only[zn7,dlt hi,zag,hx,cond_true,zam (show i<9223372036854775807 by omega)])
 rw[show zad zn7 (l,id,0,())=_ from h,←zc0]
 have:=zcc (p:=fun x:Patron=>x.ID==id) (g:=fun i _=>(.inr ((i:Int),()):Unit⊕(Int×Unit))) (d:=.inl ()) (fun z=>match (some z:Option (Unit⊕(Int×Unit))) with|some (.inl _)=>some (-1)|some (.inr (v,_))=>some v|none=>none) (l:=l) (i:=0)
 exact this.trans ((zcc (p:=fun x:Patron=>x.ID==id) (g:=fun i _=>(i:Int)) (d:=-1) (fun z=>some z) (l:=l) (i:=0)).symm)
theorem zl0 {l:List Patron} {id:Int} (hl:l.length<1000000000):qce l id=some (getP l id):=by
 unfold qce getP
 rw[za2o hl]
 rcases zbf (fun x:Patron=>x.ID==id) l with ⟨h1,h2⟩|⟨i,x,h1,h2,h3,h4⟩
 ·simp only[h1,h2,zpv,cond_true]
 ·simp only[h1,h4,zh0,cond_false,zag,h2]
theorem zaml {l:List Loan} {id:Int} (hl:l.length<1000000000):qal l id=some (fIdx (fun x=>x.Item==id) l):=by
 unfold qal
 have h:=zbm (step:=zoc) (fun i=>(l,id,(i:Int),())) l (fun x=>x.Item==id) (fun i _=>(.inr ((i:Int),()):Unit⊕(Int×Unit))) (.inl ()) hl
  (by simp only[zoc,dge,cond_false])
  (fun i x hx=>by
   have hi:=(List.getElem?_eq_some_iff.1 hx).1
   simp only[zoc,dlt hi,zag,hx,cond_true,zam (show i<9223372036854775807 by omega)])
 rw[show zad zoc (l,id,0,())=_ from h,←zc0]
 have:=zcc (p:=fun x:Loan=>x.Item==id) (g:=fun i _=>(.inr ((i:Int),()):Unit⊕(Int×Unit))) (d:=.inl ()) (fun z=>match (some z:Option (Unit⊕(Int×Unit))) with|some (.inl _)=>some (-1)|some (.inr (v,_))=>some v|none=>none) (l:=l) (i:=0)
 exact this.trans ((zcc (p:=fun x:Loan=>x.Item==id) (g:=fun i _=>(i:Int)) (d:=-1) (fun z=>some z) (l:=l) (i:=0)).symm)
theorem za3e {l:List Loan} {id:Int} (hl:l.length<1000000000):qd4 l id=some (zr4 l id):=by
 unfold qd4 zr4
 rw[zaml hl]
 rcases zbf (fun x:Loan=>x.Item==id) l with ⟨h1,h2⟩|⟨i,x,h1,h2,h3,h4⟩
 ·simp only[h1,h2,zpv,cond_true]
 ·simp only[h1,h4,zh0,cond_false,zag,h2]
theorem z0c {c:Circ} {item:Int} (hl:c.Holds.length<1000000000):qan c item=some (zbp c item):=by
 unfold qan zbp
 have h:=zbm (step:=zod) (fun i=>(item,(i:Int),c,zn5,())) c.Holds (fun x=>x.Got==item) (fun _ x=>(.inr (true,x,()):(Hold×Unit)⊕(Bool×Hold×Unit))) (.inl (zn5,())) hl
  (by simp only[zod,dge,cond_false])
  (fun i x hx=>by
   have hi:=(List.getElem?_eq_some_iff.1 hx).1
   simp only[zod,dlt hi,zag,hx,cond_true,zam (show i<9223372036854775807 by omega)])
 rw[show zad zod (item,0,c,(⟨0,0,0,0,0,0,0,0,0,0,0⟩:Hold),())=_ from h,zh3]
 cases c.Holds.find? (fun x=>x.Got==item)<;>rfl
def zd4 (c:Circ) (i:Nat) (x:Item):Bool:=
 !(decide (x.ID<1)||decide (9999<x.ID)||zbt c.Items i (fun y=>decide (x.ID≤y.ID))||decide (x.Record<1)||decide (9999<x.Record)||decide (x.Branch<1)||decide (4<x.Branch))&&
 !(decide (x.Kind<1)||decide (9<x.Kind)||decide (x.Price<0)||decide (100000000<x.Price)||decide (200<(x.Call.length:Int))||!(vld x.Call))&&
 !(!((zef x.Branch c.Moves x.ID).2.2==0)||!(zbj (zef x.Branch c.Moves x.ID).1 x.Custody))
def ze8 (c:Circ):Bool:=!(decide (64<(c.Items.length:Int))||decide (2000<(c.Moves.length:Int)))&&(zc9 (zd4 c) 0 c.Items&&c.Moves.all (fun m=>(c.Items.find? (fun x=>x.ID==m.Item)).isSome))
structure Short (c:Circ):Prop where
 items:c.Items.length<1000000000
 patrons:c.Patrons.length<1000000000
 loans:c.Loans.length<1000000000
 holds:c.Holds.length<1000000000
 charges:c.Charges.length<1000000000
 rules:c.Rules.length<1000000000
 moves:c.Moves.length<1000000000
 call:∀x∈c.Items,x.Call.length<10000000
 name:∀x∈c.Patrons,x.Name.length<10000000
 cal0:c.Cals.x0.Closed.length<1000000000
 cal1:c.Cals.x1.Closed.length<1000000000
 cal2:c.Cals.x2.Closed.length<1000000000
 cal3:c.Cals.x3.Closed.length<1000000000
theorem z2x {c:Circ} (hs:Short c):zad zli (0,c,())=some (bif zc9 (zd4 c) 0 c.Items then .inl (c,()) else .inr (false,())):=by
 have h:=zav (step:=zli) (fun i=>((i:Int),c,())) c.Items (zd4 c) (.inr (false,())) (.inl (c,())) hs.items
  (by simp only[zli,dge,cond_false])
  (fun i x hx=>by
   have hi:=(List.getElem?_eq_some_iff.1 hx).1
   have hm:=List.mem_of_getElem? hx
   have hv:=zamm (s:=x.Call) (by have:=hs.call x hm;omega)
   have hr:=za2x (branch:=x.Branch) (item:=x.ID) hs.moves
   unfold zd4
   rcases i with _|j
   ·simp -zeta only[zli,dlt hi,zag,hx,k_or,za7,zvj,cond_false,cond_true,zbt,zam (show 0<9223372036854775807 by omega),hv,hr]
    dsimp only
    generalize (decide (x.ID<1)||decide (9999<x.ID)||false||decide (x.Record<1)||decide (9999<x.Record)||decide (x.Branch<1)||decide (4<x.Branch))=b1
    generalize (decide (x.Kind<1)||decide (9<x.Kind)||decide (x.Price<0)||decide (100000000<x.Price)||decide (200<(x.Call.length:Int))||!(vld x.Call))=b2
    generalize (!((zef x.Branch c.Moves x.ID).2.2==0)||!(zbj (zef x.Branch c.Moves x.ID).1 x.Custody))=b3
    cases b1<;>cases b2<;>cases b3<;>rfl
   ·have hj:c.Items[j]?=some c.Items[j]:=List.getElem?_eq_getElem (by omega)
    have:=hs.items
    simp -zeta only[zli,dlt hi,zag,hx,k_or,za7,dpos,zfn (show j<1000000000 by omega),hj,cond_false,cond_true,Bool.true_and,zbt,zam (show j+1<9223372036854775807 by omega),hv,hr]
    dsimp only
    generalize (decide (x.ID<1)||decide (9999<x.ID)||decide (x.ID≤c.Items[j].ID)||decide (x.Record<1)||decide (9999<x.Record)||decide (x.Branch<1)||decide (4<x.Branch))=b1
    generalize (decide (x.Kind<1)||decide (9<x.Kind)||decide (x.Price<0)||decide (100000000<x.Price)||decide (200<(x.Call.length:Int))||!(vld x.Call))=b2
    generalize (!((zef x.Branch c.Moves x.ID).2.2==0)||!(zbj (zef x.Branch c.Moves x.ID).1 x.Custody))=b3
    cases b1<;>cases b2<;>cases b3<;>rfl)
 exact h
theorem zv4 {c:Circ} (hs:Short c):zad zgu (0,c,())=some (bif c.Moves.all (fun m=>(c.Items.find? (fun x=>x.ID==m.Item)).isSome) then .inl () else .inr (false,())):=by
 have h:=zav (step:=zgu) (fun i=>((i:Int),c,())) c.Moves (fun _ m=>(c.Items.find? (fun x=>x.ID==m.Item)).isSome) (.inr (false,())) (.inl ()) hs.moves
  (by simp only[zgu,dge,cond_false])
  (fun i x hx=>by
   have hi:=(List.getElem?_eq_some_iff.1 hx).1
   have:=hs.moves
   simp only[zgu,dlt hi,zag,hx,cond_true,zam (show i<9223372036854775807 by omega)]
   rcases zqu (item:=x.Item) hs.items with ⟨h1,h2⟩|⟨k,y,h1,h2,h3,h4⟩
   ·simp only[h1,h2,zpv,cond_true,Option.isSome_none,cond_false]
   ·simp only[h1,h4,zh0,cond_false,Option.isSome_some,cond_true])
 rw[show zad zgu (0,c,())=_ from h,zay]
theorem za2s {c:Circ} (hs:Short c):qad c=some (ze8 c):=by
 unfold qad ze8
 simp -zeta only[k_or]
 dsimp only
 rw[z2x hs]
 cases (decide (64<(c.Items.length:Int))||decide (2000<(c.Moves.length:Int))) with
 |true=>rfl
 |false=>
  cases zc9 (zd4 c) 0 c.Items with
  |false=>rfl
  |true=>
   simp only[cond_false,cond_true,zv4 hs]
   cases c.Moves.all (fun m=>(c.Items.find? (fun x=>x.ID==m.Item)).isSome)<;>rfl
def zhh (c:Circ) (n:Loan):Bool:=match c.Items.find? (fun x=>x.ID==n.Item) with
 |some x=>!(!(getP c.Patrons n.Patron).2||!(zhl x.Custody)||!(x.Custody.Who==n.Patron))
 |none=>false
def zf2 (c:Circ):Bool:=c.Loans.all (zhh c)&&c.Items.all (fun x=>(zr4 c.Loans x.ID).2==zhl x.Custody)
theorem za2r {c:Circ} (hs:Short c):qac c=some (zf2 c):=by
 have h1:=zav (step:=zlh) (fun i=>((i:Int),c,())) c.Loans (fun _=>zhh c) (.inr (false,())) (.inl (c,())) hs.loans
  (by simp only[zlh,dge,cond_false])
  (fun i x hx=>by
   have hi:=(List.getElem?_eq_some_iff.1 hx).1
   have:=hs.loans
   unfold zhh
   rcases zqu (item:=x.Item) hs.items with ⟨h1,h2⟩|⟨k,y,h1,h2,h3,h4⟩
   ·simp -zeta only[zlh,dlt hi,zag,hx,cond_true,k_or,zl0 hs.patrons,h1,h2,zpv,Bool.true_or]
    try rfl
   ·simp -zeta only[zlh,dlt hi,zag,hx,cond_true,k_or,zl0 hs.patrons,h1,h2,h4,zh0,Bool.false_or,z96,zam (show i<9223372036854775807 by omega)]
    dsimp only
    cases (!(getP c.Patrons x.Patron).2||!(zhl y.Custody)||!(y.Custody.Who==x.Patron))<;>rfl)
 have h2:=zav (step:=zic) (fun i=>((i:Int),c,())) c.Items (fun _ x=>(zr4 c.Loans x.ID).2==zhl x.Custody) (.inr (false,())) (.inl ()) hs.items
  (by simp only[zic,dge,cond_false])
  (fun i x hx=>by
   have hi:=(List.getElem?_eq_some_iff.1 hx).1
   have:=hs.items
   simp only[zic,dlt hi,zag,hx,cond_true,za3e hs.loans,z96,zam (show i<9223372036854775807 by omega)]
   cases (zr4 c.Loans x.ID).2==zhl x.Custody<;>rfl)
 unfold qac zf2
 rw[show zad zlh (0,c,())=_ from h1,zay]
 cases c.Loans.all (zhh c) with
 |false=>rfl
 |true=>
  simp only[cond_true]
  rw[show zad zic (0,c,())=_ from h2,zay]
  cases c.Items.all (fun x=>(zr4 c.Loans x.ID).2==zhl x.Custody)<;>rfl
def zgc (c:Circ) (h:Hold):Bool:=
 !(!(getP c.Patrons h.Patron).2||decide (c.NextHold≤h.ID))&&(h.State==1||(match c.Items.find? (fun x=>x.ID==h.Got) with
  |some x=>!(!(x.Record==h.Record))&&!(h.State==3&&(!(x.Custody.State==5)||!(x.Custody.Branch==h.Pickup)||!(x.Custody.Who==h.Patron)))&&
   !(h.State==2&&(!(x.Custody.State==6)||!(x.Custody.To==h.Pickup)||!(x.Custody.Who==h.Patron)))
  |none=>false))
def zf5 (c:Circ) (x:Item):Bool:=!(x.Custody.State==5)||!(!(zbp c x.ID).2||!((zbp c x.ID).1.State==3))
def zf0 (c:Circ):Bool:=c.Holds.all (zgc c)&&c.Items.all (zf5 c)
theorem za2t {c:Circ} (hs:Short c):qae c=some (zf0 c):=by
 have h1:=zav (step:=zlj) (fun i=>((i:Int),c,())) c.Holds (fun _=>zgc c) (.inr (false,())) (.inl (c,())) hs.holds
  (by simp only[zlj,dge,cond_false])
  (fun i x hx=>by
   have hi:=(List.getElem?_eq_some_iff.1 hx).1
   have:=hs.holds
   unfold zgc
   rcases zqu (item:=x.Got) hs.items with ⟨h1,h2⟩|⟨k,y,h1,h2,h3,h4⟩
   ·simp -zeta only[zlj,dlt hi,zag,hx,cond_true,k_or,zl0 hs.patrons,h1,h2,zpv,zam (show i<9223372036854775807 by omega)]
    dsimp only
    cases (!(getP c.Patrons x.Patron).2||decide (c.NextHold≤x.ID)) with
    |true=>rfl
    |false=>cases x.State==1<;>rfl
   ·simp -zeta only[zlj,dlt hi,zag,hx,cond_true,k_or,za7,zl0 hs.patrons,h1,h2,h4,zh0,cond_false,zam (show i<9223372036854775807 by omega)]
    dsimp only
    generalize (!(getP c.Patrons x.Patron).2||decide (c.NextHold≤x.ID))=b1
    generalize (x.State==1)=b2
    generalize (!(y.Record==x.Record))=b3
    generalize (!(y.Custody.State==5)||!(y.Custody.Branch==x.Pickup)||!(y.Custody.Who==x.Patron))=b4
    generalize (!(y.Custody.State==6)||!(y.Custody.To==x.Pickup)||!(y.Custody.Who==x.Patron))=b5
    generalize (x.State==3)=b6
    generalize (x.State==2)=b7
    cases b1<;>cases b2<;>cases b3<;>cases b4<;>cases b5<;>cases b6<;>cases b7<;>rfl)
 have h2:=zav (step:=zid) (fun i=>((i:Int),c,())) c.Items (fun _=>zf5 c) (.inr (false,())) (.inl ()) hs.items
  (by simp only[zid,dge,cond_false])
  (fun i x hx=>by
   have hi:=(List.getElem?_eq_some_iff.1 hx).1
   have:=hs.items
   unfold zf5
   simp -zeta only[zid,dlt hi,zag,hx,cond_true,k_or,z0c hs.holds,zam (show i<9223372036854775807 by omega)]
   dsimp only
   cases x.Custody.State==5 with
   |false=>rfl
   |true=>
    generalize (!(zbp c x.ID).2||!((zbp c x.ID).1.State==3))=b
    cases b<;>rfl)
 unfold qae zf0
 rw[show zad zlj (0,c,())=_ from h1,zay]
 cases c.Holds.all (zgc c) with
 |false=>rfl
 |true=>
  simp only[cond_true]
  rw[show zad zid (0,c,())=_ from h2,zay]
  cases c.Items.all (zf5 c)<;>rfl
end Go.Proofs.YtdahfgialanmpaaGreatDoor
namespace Go.Proofs.YtdahfgialanmpaaGreatDoor
open Ev
open Go (IntKind)
def zg4 (c:Circ):Bool:=zcj c.Cals.x0==0&&(zcj c.Cals.x1==0&&(zcj c.Cals.x2==0&&zcj c.Cals.x3==0))
theorem z2y {c:Circ} (hs:Short c):zad ziq (0,c,())=some (bif zg4 c then .inl (c,()) else .inr (false,())):=by
 have s0:ziq (0,c,())=bif zcj c.Cals.x0==0 then some (.inl (1,c,())) else some (.inr (.inr (false,()))):=by
  show (match qu c.Cals.x0 with|some r=>(bif !(r==0) then (some (.inr (.inr (false,()))):Option ((Int×Circ×Unit)⊕((Circ×Unit)⊕(Bool×Unit)))) else some (.inl (1,c,())))|none=>none)=_
  rw[zaab hs.cal0];dsimp only;cases zcj c.Cals.x0==0<;>rfl
 have s1:ziq (1,c,())=bif zcj c.Cals.x1==0 then some (.inl (2,c,())) else some (.inr (.inr (false,()))):=by
  show (match qu c.Cals.x1 with|some r=>(bif !(r==0) then (some (.inr (.inr (false,()))):Option ((Int×Circ×Unit)⊕((Circ×Unit)⊕(Bool×Unit)))) else some (.inl (2,c,())))|none=>none)=_
  rw[zaab hs.cal1];dsimp only;cases zcj c.Cals.x1==0<;>rfl
 have s2:ziq (2,c,())=bif zcj c.Cals.x2==0 then some (.inl (3,c,())) else some (.inr (.inr (false,()))):=by
  show (match qu c.Cals.x2 with|some r=>(bif !(r==0) then (some (.inr (.inr (false,()))):Option ((Int×Circ×Unit)⊕((Circ×Unit)⊕(Bool×Unit)))) else some (.inl (3,c,())))|none=>none)=_
  rw[zaab hs.cal2];dsimp only;cases zcj c.Cals.x2==0<;>rfl
 have s3:ziq (3,c,())=bif zcj c.Cals.x3==0 then some (.inl (4,c,())) else some (.inr (.inr (false,()))):=by
  show (match qu c.Cals.x3 with|some r=>(bif !(r==0) then (some (.inr (.inr (false,()))):Option ((Int×Circ×Unit)⊕((Circ×Unit)⊕(Bool×Unit)))) else some (.inl (4,c,())))|none=>none)=_
  rw[zaab hs.cal3];dsimp only;cases zcj c.Cals.x3==0<;>rfl
 have s4:ziq (4,c,())=some (.inr (.inl (c,()))):=rfl
 refine zbd 5 (by rw[za4];omega) ?_
 unfold zg4
 simp only[za1,s0,s1,s2,s3,s4]
 cases zcj c.Cals.x0==0 with
 |false=>rfl
 |true=>
  simp only[cond_true,za1,s1]
  cases zcj c.Cals.x1==0 with
  |false=>rfl
  |true=>
   simp only[cond_true,za1,s2]
   cases zcj c.Cals.x2==0 with
   |false=>rfl
   |true=>
    simp only[cond_true,za1,s3]
    cases zcj c.Cals.x3==0 with
    |false=>rfl
    |true=>simp only[cond_true,za1,s4];rfl
def ze2 (c:Circ) (x:Charge):Bool:=!(!(getP c.Patrons x.Patron).2||decide (c.NextCharge≤x.ID))
theorem zv6 {c:Circ} (hs:Short c):zad zgw (0,c,())=some (bif c.Charges.all (ze2 c) then .inl (c,()) else .inr (false,())):=by
 have h:=zav (step:=zgw) (fun i=>((i:Int),c,())) c.Charges (fun _=>ze2 c) (.inr (false,())) (.inl (c,())) hs.charges
  (by simp only[zgw,dge,cond_false])
  (fun i x hx=>by
   have hi:=(List.getElem?_eq_some_iff.1 hx).1
   have:=hs.charges
   unfold ze2
   simp -zeta only[zgw,dlt hi,zag,hx,cond_true,k_or,zl0 hs.patrons,zam (show i<9223372036854775807 by omega)]
   dsimp only
   cases (!(getP c.Patrons x.Patron).2||decide (c.NextCharge≤x.ID))<;>rfl)
 rw[show zad zgw (0,c,())=_ from h,zay]
def zqq (c:Circ):Bool:=!(decide (c.Today<0)||decide (109572<c.Today)||decide (c.NextHold<1)||decide (100000<c.NextHold)||decide (c.NextCharge<1)||decide (100000<c.NextCharge))
def zkw (c:Circ):Bool:=!(!(zfb c.Patrons==0)||!(zhi c.Loans==0)||!(zd3 c.Holds==0)||!(za3 c.Charges==0)||!(zge c.Rules==0))
def zou (c:Circ):Bool:=zqq c&&(zkw c&&(zg4 c&&(c.Charges.all (ze2 c)&&(ze8 c&&(zf2 c&&zf0 c)))))
theorem za2w {c:Circ} (hs:Short c):qaj c=some (zou c):=by
 unfold qaj zou zqq zkw
 simp -zeta only[k_or,za7,za20 hs.patrons hs.name,za2z hs.loans,za5c hs.holds,zamo hs.charges,za5b hs.rules]
 dsimp only
 rw[z2y hs]
 generalize (decide (c.Today<0)||decide (109572<c.Today)||decide (c.NextHold<1)||decide (100000<c.NextHold)||decide (c.NextCharge<1)||decide (100000<c.NextCharge))=b1
 generalize (!(zfb c.Patrons==0)||!(zhi c.Loans==0)||!(zd3 c.Holds==0)||!(za3 c.Charges==0)||!(zge c.Rules==0))=b2
 cases b1 with
 |true=>rfl
 |false=>
  cases b2 with
  |true=>rfl
  |false=>
   cases zg4 c with
   |false=>rfl
   |true=>
    simp only[cond_false,cond_true,zv6 hs]
    cases c.Charges.all (ze2 c) with
    |false=>rfl
    |true=>
     simp -zeta only[cond_false,cond_true,za2s hs,za2r hs,za2t hs,za7]
     try dsimp only
     cases ze8 c<;>cases zf2 c<;>cases zf0 c<;>rfl
def zmi (c:Circ):Bool:=
 !(decide (10<(c.Items.length:Int))||decide (8<(c.Patrons.length:Int))||decide (12<(c.Holds.length:Int))||decide (12<(c.Loans.length:Int))||decide (30<(c.Charges.length:Int))||decide (10<(c.Rules.length:Int))||decide (200<(c.Moves.length:Int)))&&
 (c.Items.all (fun x=>!(decide (300<(x.Call.length:Int))))&&(c.Patrons.all (fun x=>!(decide (300<(x.Name.length:Int))))&&
  (!(decide (20<(c.Cals.x0.Closed.length:Int)))&&(!(decide (20<(c.Cals.x1.Closed.length:Int)))&&(!(decide (20<(c.Cals.x2.Closed.length:Int)))&&!(decide (20<(c.Cals.x3.Closed.length:Int))))))))
theorem za48 (c:Circ):qa c=some (zmi c):=by
 unfold qa zmi
 simp -zeta only[k_or,za7]
 dsimp only
 cases hb:(decide (10<(c.Items.length:Int))||decide (8<(c.Patrons.length:Int))||decide (12<(c.Holds.length:Int))||decide (12<(c.Loans.length:Int))||decide (30<(c.Charges.length:Int))||decide (10<(c.Rules.length:Int))||decide (200<(c.Moves.length:Int))) with
 |true=>rfl
 |false=>
  simp only[Bool.or_eq_false_iff,decide_eq_false_iff_not]at hb
  have h1:=zav (step:=z2v) (fun i=>((i:Int),c,())) c.Items (fun _ x=>!(decide (300<(x.Call.length:Int)))) (.inr (false,())) (.inl (c,())) (by omega)
   (by simp only[z2v,dge,cond_false])
   (fun i x hx=>by
    have hi:=(List.getElem?_eq_some_iff.1 hx).1
    simp only[z2v,dlt hi,zag,hx,cond_true,zam (show i<9223372036854775807 by omega)]
    cases decide (300<(x.Call.length:Int))<;>rfl)
  have h2:=zav (step:=z2w) (fun i=>((i:Int),c,())) c.Patrons (fun _ x=>!(decide (300<(x.Name.length:Int)))) (.inr (false,())) (.inl (c,())) (by omega)
   (by simp only[z2w,dge,cond_false])
   (fun i x hx=>by
    have hi:=(List.getElem?_eq_some_iff.1 hx).1
    simp only[z2w,dlt hi,zag,hx,cond_true,zam (show i<9223372036854775807 by omega)]
    cases decide (300<(x.Name.length:Int))<;>rfl)
  have h3:zad zip (0,c,())=some (bif (!(decide (20<(c.Cals.x0.Closed.length:Int)))&&(!(decide (20<(c.Cals.x1.Closed.length:Int)))&&(!(decide (20<(c.Cals.x2.Closed.length:Int)))&&!(decide (20<(c.Cals.x3.Closed.length:Int)))))) then .inl () else .inr (false,())):=by
   have s0:zip (0,c,())=bif decide (20<(c.Cals.x0.Closed.length:Int)) then some (.inr (.inr (false,()))) else some (.inl (1,c,())):=rfl
   have s1:zip (1,c,())=bif decide (20<(c.Cals.x1.Closed.length:Int)) then some (.inr (.inr (false,()))) else some (.inl (2,c,())):=rfl
   have s2:zip (2,c,())=bif decide (20<(c.Cals.x2.Closed.length:Int)) then some (.inr (.inr (false,()))) else some (.inl (3,c,())):=rfl
   have s3:zip (3,c,())=bif decide (20<(c.Cals.x3.Closed.length:Int)) then some (.inr (.inr (false,()))) else some (.inl (4,c,())):=rfl
   have s4:zip (4,c,())=some (.inr (.inl ())):=rfl
   refine zbd 5 (by rw[za4];omega) ?_
   simp only[za1,s0]
   cases decide (20<(c.Cals.x0.Closed.length:Int)) with
   |true=>rfl
   |false=>
    simp only[cond_false,za1,s1]
    cases decide (20<(c.Cals.x1.Closed.length:Int)) with
    |true=>rfl
    |false=>
     simp only[cond_false,za1,s2]
     cases decide (20<(c.Cals.x2.Closed.length:Int)) with
     |true=>rfl
     |false=>
      simp only[cond_false,za1,s3]
      cases decide (20<(c.Cals.x3.Closed.length:Int)) with
      |true=>rfl
      |false=>simp only[cond_false,za1,s4];rfl
  simp only[cond_false,Bool.not_false,Bool.true_and]
  rw[show zad z2v (0,c,())=_ from h1,zay]
  cases c.Items.all (fun x=>!(decide (300<(x.Call.length:Int)))) with
  |false=>rfl
  |true=>
   simp only[cond_true,Bool.true_and]
   rw[show zad z2w (0,c,())=_ from h2,zay]
   cases c.Patrons.all (fun x=>!(decide (300<(x.Name.length:Int)))) with
   |false=>rfl
   |true=>
    simp only[cond_true,Bool.true_and,h3]
    cases (!(decide (20<(c.Cals.x0.Closed.length:Int)))&&(!(decide (20<(c.Cals.x1.Closed.length:Int)))&&(!(decide (20<(c.Cals.x2.Closed.length:Int)))&&!(decide (20<(c.Cals.x3.Closed.length:Int))))))<;>rfl
structure SmallP (c:Circ):Prop where
 items:c.Items.length≤10
 patrons:c.Patrons.length≤8
 holds:c.Holds.length≤12
 loans:c.Loans.length≤12
 charges:c.Charges.length≤30
 rules:c.Rules.length≤10
 moves:c.Moves.length≤200
 call:∀x∈c.Items,x.Call.length≤300
 name:∀x∈c.Patrons,x.Name.length≤300
 cal0:c.Cals.x0.Closed.length≤20
 cal1:c.Cals.x1.Closed.length≤20
 cal2:c.Cals.x2.Closed.length≤20
 cal3:c.Cals.x3.Closed.length≤20
theorem zaoc {c:Circ} (h:zmi c=true):SmallP c:=by
 unfold zmi at h
 simp only[Bool.and_eq_true,Bool.not_eq_true',Bool.or_eq_false_iff,decide_eq_false_iff_not,List.all_eq_true]at h
 obtain ⟨⟨⟨⟨⟨⟨⟨h1,h2⟩,h3⟩,h4⟩,h5⟩,h6⟩,h7⟩,h8,h9,h10,h11,h12,h13⟩:=h
 exact ⟨by omega,by omega,by omega,by omega,by omega,by omega,by omega,fun x hx=>by have:=h8 x hx;omega,fun x hx=>by have:=h9 x hx;omega,by omega,by omega,by omega,by omega⟩
theorem SmallP.short {c:Circ} (h:SmallP c):Short c:=by
 obtain ⟨h1,h2,h3,h4,h5,h6,h7,h8,h9,h10,h11,h12,h13⟩:=h
 exact ⟨by omega,by omega,by omega,by omega,by omega,by omega,by omega,fun x hx=>by have:=h8 x hx;omega,fun x hx=>by have:=h9 x hx;omega,by omega,by omega,by omega,by omega⟩
theorem za3u (c:Circ):qfv c=some (zmi c&&zou c):=by
 unfold qfv
 rw[za48]
 cases h:zmi c with
 |false=>rfl
 |true=>
  simp only[cond_true,za2w (zaoc h).short]
  try rfl
end Go.Proofs.YtdahfgialanmpaaGreatDoor
namespace Go.Proofs.YtdahfgialanmpaaGreatDoor
open Ev
open Go (IntKind)
theorem zado:qfe=some true:=by kernel_rfl
theorem za5d {γ0:Type} {p:γ0→Patron→Option Bool} {q:Patron→Bool} {s:List Patron} {g:γ0} (hs:s.length<1000000000) (hp:∀x∈s,p g x=some (q x)):qn p s g=some (fIdx q s):=by
 have h:=zbm (step:=zwi p) (fun i=>(s,g,(s.length:Int),(i:Int),())) s q (fun i _=>(.inr ((i:Int),()):Unit⊕(Int×Unit))) (.inl ()) hs
  (by simp only[zwi,dge,cond_false])
  (fun i x hx=>by
   have hi:=(List.getElem?_eq_some_iff.1 hx).1
   simp only[zwi,dlt hi,cond_true,zag,hx,hp x (List.mem_of_getElem? hx),zam (show i<9223372036854775807 by omega)])
 unfold qn
 rw[show zad (zwi p) (s,g,(s.length:Int),0,())=_ from h,←zc0]
 have:=zcc (p:=q) (g:=fun i _=>(.inr ((i:Int),()):Unit⊕(Int×Unit))) (d:=.inl ()) (fun z=>match (some z:Option (Unit⊕(Int×Unit))) with|some (.inl _)=>some (-1)|some (.inr (v,_))=>some v|none=>none) (l:=s) (i:=0)
 exact this.trans ((zcc (p:=q) (g:=fun i _=>(i:Int)) (d:=-1) (fun z=>some z) (l:=s) (i:=0)).symm)
theorem za3b {l:List Patron} {id:Int} (hl:l.length<1000000000):qcp l id=some (getP l id):=by
 unfold qcp qb4 getP
 rw[za5d (q:=fun x=>x.ID==id) hl (fun x _=>rfl)]
 rcases zbf (fun x:Patron=>x.ID==id) l with ⟨h1,h2⟩|⟨i,x,h1,h2,h3,h4⟩
 ·simp only[h1,h2,zpv,cond_true]
 ·simp only[h1,h4,zh0,cond_false,zag,h2]
end Go.Proofs.YtdahfgialanmpaaGreatDoor
namespace Go.Proofs.YtdahfgialanmpaaGreatDoor
open Ev
open Go (IntKind)
theorem zle (lo hi n:Int):(!(rng lo hi n))=(decide (n<lo)||decide (hi<n)):=by
 unfold rng
 by_cases h1:n<lo
 ·have:¬lo≤n:=by omega
  simp[h1,this]
 ·have:lo≤n:=by omega
  by_cases h2:hi<n
  ·have:¬n≤hi:=by omega
   simp[*]
  ·have:n≤hi:=by omega
   simp[*]
theorem zatm {X:Type} (p:X→Bool) (l:List X):decide (fIdx p l<0)=!(l.any p):=by
 unfold fIdx
 induction l with
 |nil=>rfl
 |cons y l ih=>
  simp only[List.findIdx?_cons,List.any_cons]
  cases hp:p y with
  |true=>rfl
  |false=>
   simp only[Bool.false_eq_true,if_false,Bool.false_or]
   rw[←ih]
   cases l.findIdx? p with
   |none=>rfl
   |some k=>simp only[Option.map_some];rw[decide_eq_decide];omega
theorem z65 {X:Type} (p:X→Bool) (l:List X):decide (0≤fIdx p l)=l.any p:=by
 have h:=zatm p l
 cases hb:l.any p with
 |true=>rw[hb]at h;simp at h ⊢;omega
 |false=>rw[hb]at h;simp at h ⊢;omega
theorem zavj {γ:Type} {p:γ→Int→Option Bool} {g:γ} (q:Int→Bool) {l:List Int} (hl:l.length<1000000000) (hp:∀x∈l,p g x=some (q x)):qa8 p l g=some (fIdx q l):=by
 have h:=zbm (step:=zob p) (fun i=>(l,g,(l.length:Int),(i:Int),())) l q (fun i _=>(.inr ((i:Int),()):(Unit)⊕(Int×Unit))) (.inl ()) hl
  (by simp only[zob,dge,cond_false])
  (fun i x hx=>by
   have hi:=(List.getElem?_eq_some_iff.1 hx).1
   simp only[zob,dlt hi,zag,hx,cond_true,hp x (List.mem_of_getElem? hx),zam (show i<9223372036854775807 by omega)])
 unfold qa8
 rw[show zad (zob p) (l,g,(l.length:Int),0,())=_ from h]
 have e:=zcc (p:=q) (g:=fun i _=>(.inr ((i:Int),()):(Unit)⊕(Int×Unit))) (d:=.inl ()) (fun r:(Unit)⊕(Int×Unit)=>match r with | .inl (_)=>(-1:Int) | .inr (v,_)=>v) (l:=l) (i:=0)
 dsimp only at e
 rw[←zc0,←e]
 generalize zet q (fun i _=>(.inr ((i:Int),()):(Unit)⊕(Int×Unit))) (.inl ()) 0 l=r
 rcases r with _|⟨v,_⟩<;>rfl
theorem zavr {γ:Type} {p:γ→Int→Option Bool} {g:γ} (q:Int→Bool) {l:List Int} (hl:l.length<1000000000) (hp:∀x∈l,p g x=some (q x)):qe7 p l g=some (l.any q):=by
 unfold qe7
 rw[zavj q hl hp]
 dsimp only
 rw[z65]
theorem za3z {γ:Type} {p:γ→Loan→Option Bool} {g:γ} (q:Loan→Bool) {l:List Loan} (hl:l.length<1000000000) (hp:∀x∈l,p g x=some (q x)):ql p l g=some (fIdx q l):=by
 have h:=zbm (step:=zwg p) (fun i=>(l,g,(l.length:Int),(i:Int),())) l q (fun i _=>(.inr ((i:Int),()):(Unit)⊕(Int×Unit))) (.inl ()) hl
  (by simp only[zwg,dge,cond_false])
  (fun i x hx=>by
   have hi:=(List.getElem?_eq_some_iff.1 hx).1
   simp only[zwg,dlt hi,zag,hx,cond_true,hp x (List.mem_of_getElem? hx),zam (show i<9223372036854775807 by omega)])
 unfold ql
 rw[show zad (zwg p) (l,g,(l.length:Int),0,())=_ from h]
 have e:=zcc (p:=q) (g:=fun i _=>(.inr ((i:Int),()):(Unit)⊕(Int×Unit))) (d:=.inl ()) (fun r:(Unit)⊕(Int×Unit)=>match r with | .inl (_)=>(-1:Int) | .inr (v,_)=>v) (l:=l) (i:=0)
 dsimp only at e
 rw[←zc0,←e]
 generalize zet q (fun i _=>(.inr ((i:Int),()):(Unit)⊕(Int×Unit))) (.inl ()) 0 l=r
 rcases r with _|⟨v,_⟩<;>rfl
theorem za3i {γ:Type} {p:γ→Item→Option Bool} {g:γ} (q:Item→Bool) {l:List Item} (hl:l.length<1000000000) (hp:∀x∈l,p g x=some (q x)):qe p l g=some (fIdx q l):=by
 have h:=zbm (step:=zt6 p) (fun i=>(l,g,(l.length:Int),(i:Int),())) l q (fun i _=>(.inr ((i:Int),()):(Unit)⊕(Int×Unit))) (.inl ()) hl
  (by simp only[zt6,dge,cond_false])
  (fun i x hx=>by
   have hi:=(List.getElem?_eq_some_iff.1 hx).1
   simp only[zt6,dlt hi,zag,hx,cond_true,hp x (List.mem_of_getElem? hx),zam (show i<9223372036854775807 by omega)])
 unfold qe
 rw[show zad (zt6 p) (l,g,(l.length:Int),0,())=_ from h]
 have e:=zcc (p:=q) (g:=fun i _=>(.inr ((i:Int),()):(Unit)⊕(Int×Unit))) (d:=.inl ()) (fun r:(Unit)⊕(Int×Unit)=>match r with | .inl (_)=>(-1:Int) | .inr (v,_)=>v) (l:=l) (i:=0)
 dsimp only at e
 rw[←zc0,←e]
 generalize zet q (fun i _=>(.inr ((i:Int),()):(Unit)⊕(Int×Unit))) (.inl ()) 0 l=r
 rcases r with _|⟨v,_⟩<;>rfl
theorem z0d {γ:Type} {p:γ→Hold→Option Bool} {g:γ} (q:Hold→Bool) {l:List Hold} (hl:l.length<1000000000) (hp:∀x∈l,p g x=some (q x)):qb p l g=some (fIdx q l):=by
 have h:=zbm (step:=zm7 p) (fun i=>(l,g,(l.length:Int),(i:Int),())) l q (fun i _=>(.inr ((i:Int),()):(Unit)⊕(Int×Unit))) (.inl ()) hl
  (by simp only[zm7,dge,cond_false])
  (fun i x hx=>by
   have hi:=(List.getElem?_eq_some_iff.1 hx).1
   simp only[zm7,dlt hi,zag,hx,cond_true,hp x (List.mem_of_getElem? hx),zam (show i<9223372036854775807 by omega)])
 unfold qb
 rw[show zad (zm7 p) (l,g,(l.length:Int),0,())=_ from h]
 have e:=zcc (p:=q) (g:=fun i _=>(.inr ((i:Int),()):(Unit)⊕(Int×Unit))) (d:=.inl ()) (fun r:(Unit)⊕(Int×Unit)=>match r with | .inl (_)=>(-1:Int) | .inr (v,_)=>v) (l:=l) (i:=0)
 dsimp only at e
 rw[←zc0,←e]
 generalize zet q (fun i _=>(.inr ((i:Int),()):(Unit)⊕(Int×Unit))) (.inl ()) 0 l=r
 rcases r with _|⟨v,_⟩<;>rfl
theorem zavn {γ:Type} {p:γ→Hold→Option Bool} {g:γ} (q:Hold→Bool) {l:List Hold} (hl:l.length<1000000000) (hp:∀x∈l,p g x=some (q x)):qcx p l g=some (l.any q):=by
 unfold qcx
 rw[z0d q hl hp]
 dsimp only
 rw[z65]
theorem za3a (n lo hi:Int):qcb n lo hi=some (rng lo hi n):=by
 unfold qcb
 simp -zeta only[k_or,za7]
 try rfl
theorem za3k (n:Int):qen n=some (rng 0 109572 n):=by
 unfold qen
 simp -zeta only[k_or,za7]
 try rfl
theorem za3p (n:Int):qfb n=some (rng 1 9999 n):=by
 unfold qfb
 simp -zeta only[k_or,za7]
 try rfl
theorem z92 (n:Int):qdb n=some (rng 0 109572 n):=by
 unfold qdb
 simp -zeta only[k_or,za7]
 try rfl
def zfh (x:Charge):Int:=
 bif decide (x.ID<1)||decide (99999<x.ID)||decide (x.Patron<1)||decide (9999<x.Patron)||decide (x.Item<1)||decide (9999<x.Item)||!(rng 0 109572 x.Day) then 2
 else bif decide (x.Kind<1)||decide (3<x.Kind) then 1
 else bif decide (x.Amount<1)||decide (100000000<x.Amount)||decide (x.Paid<0)||decide (x.Amount≤x.Paid) then 2 else 0
theorem zam3 (x:Charge):qcf x=some (zfh x):=by
 unfold qcf zfh
 simp -zeta only[k_or,za7,za3k,za3p,zle 1 9999,Bool.or_assoc]
 dsimp only
 simp only[zc4,Bool.or_assoc]
theorem zr2 {α β:Type} (a:α) (g:Int→β) (e:Int):(bif !(e==0) then some (.inr (g e)) else some (.inl a):Option (α⊕β))=zgn a g e:=by
 unfold zgn
 cases e==0<;>rfl
theorem zj4 (l:List Charge) (i:Nat) (x:Charge):zcb l i x=bif zbt l i (fun y=>decide (x.ID≤y.ID)) then 7 else zfh x:=rfl
theorem z24 {l:List Charge} (hl:l.length<1000000000):zad zlq (l,l,(l.length:Int),0,())=some (if zb9 (zcb l) 0 l==0 then .inl () else .inr (zb9 (zcb l) 0 l,())):=by
 have h:=zd7 (step:=zlq) (fun i=>(l,l,(l.length:Int),(i:Int),())) l (zcb l) (.inl ()) (fun e=>.inr (e,())) hl
  (by simp only[zlq,dge,cond_false])
  (fun i x hx=>by
   have hi:=(List.getElem?_eq_some_iff.1 hx).1
   have hxm:=List.mem_of_getElem? hx
   rw[zj4,zdh,←zr2 _ _ (zfh x)]
   rcases i with _|j
   ·simp -zeta only[zlq,dlt hi,zag,hx,k_or,za7,zvj,cond_false,cond_true,zbt,zam (show 0<9223372036854775807 by omega),zam3]
    try rfl
   ·have hj:l[j]?=some l[j]:=List.getElem?_eq_getElem (by omega)
    simp -zeta only[zlq,dlt hi,zag,hx,k_or,za7,dpos,zfn (show j<1000000000 by omega),hj,cond_false,cond_true,zbt,zam (show j+1<9223372036854775807 by omega),zam3]
    rfl)
 exact h
theorem za23 {l:List Charge} (hl:l.length<1000000000):qbd l=some (za3 l):=by
 unfold qbd za3
 rw[z24 hl]
 generalize zb9 (zcb l) 0 l=e
 cases decide (128<(l.length:Int)) with
 |true=>rfl
 |false=>
  by_cases h:e=0
  ·subst h;rfl
  ·have h2:(e==0)=false:=by simpa using h
   simp only[h2,Bool.false_eq_true,if_false,cond_false]
theorem zhc (l:List Hold) (i:Nat) (x:Hold):zdi l i x=bif zbt l i (fun y=>decide (x.ID≤y.ID)) then 7 else zbo x:=by
 unfold zdi
 congr 1
 cases h:zbo x==0 with
 |true=>simp at h;simp[h]
 |false=>simp
def za5r (q:Hold→Hold→Bool) (l:List Hold):Bool:=zc9 (fun i x=>(l.take i).all (fun y=>!(q y x))) 0 l
theorem z4f {X:Type} (q:X→Bool) (l:List X):l.any q=!(l.all (fun y=>!(q y))):=by
 induction l with
 |nil=>rfl
 |cons y l ih=>simp only[List.any_cons,List.all_cons];rw[ih];cases q y<;>rfl
theorem zaad {c:Calendar} (hl:c.Closed.length<1000000000):zad zwk (c.Closed,(c.Closed.length:Int),0,c,())=some (bif incr c.Closed then .inl () else .inr (7,())):=by
 have h:=zav (step:=zwk) (fun i=>(c.Closed,(c.Closed.length:Int),(i:Int),c,())) c.Closed (fun i x=>!(zbt c.Closed i (fun y=>decide (x≤y)))) (.inr (7,())) (.inl ()) hl
  (by simp only[zwk,dge,cond_false])
  (fun i x hx=>by
   have hi:=(List.getElem?_eq_some_iff.1 hx).1
   rcases i with _|j
   ·simp -zeta only[zwk,dlt hi,zag,hx,za7,zvj,cond_false,cond_true,zbt,zam (show 0<9223372036854775807 by omega)]
    try rfl
   ·have hj:c.Closed[j]?=some c.Closed[j]:=List.getElem?_eq_getElem (by omega)
    simp -zeta only[zwk,dlt hi,zag,hx,dpos,cond_true,zfn (show j<1000000000 by omega),hj,zbt,zam (show j+1<9223372036854775807 by omega)]
    dsimp only
    cases decide (x≤c.Closed[j])<;>rfl)
 exact h
theorem za5e {c:Calendar} (hl:c.Closed.length<1000000000):qw c=some (zcj c):=by
 unfold qw zcj
 simp -zeta only[k_or]
 dsimp only
 rw[zaad hl,zavr (fun x=>decide (x<0)||decide (109572<x)) hl (fun x _=>by
  unfold qc7
  rw[z92]
  dsimp only
  rw[zle]),z4f]
 have e:decide (127≤c.Week)=decide (126<c.Week):=by rw[decide_eq_decide];omega
 rw[e]
 cases (decide (c.Week<0)||decide (126<c.Week)) with
 |true=>rfl
 |false=>
  cases decide (64<(c.Closed.length:Int)) with
  |true=>rfl
  |false=>
   cases c.Closed.all (fun x=>!(decide (x<0)||decide (109572<x))) with
   |false=>rfl
   |true=>
    simp only[cond_false,cond_true]
    cases incr c.Closed<;>rfl
end Go.Proofs.YtdahfgialanmpaaGreatDoor
namespace Go.Proofs.YtdahfgialanmpaaGreatDoor
open Ev
open Go (IntKind)
theorem zam0 (n lo hi:Int):qbu n lo hi=some (rng lo hi n):=by
 unfold qbu
 simp -zeta only[k_or,za7]
 try rfl
theorem zby {lo hi n:Int}:rng lo hi n=true↔lo≤n∧n≤hi:=by
 unfold rng
 simp only[Bool.and_eq_true,decide_eq_true_eq]
theorem zkm {n:Int} (h:rng 1 12 n=true):n=1∨n=2∨n=3∨n=4∨n=5∨n=6∨n=7∨n=8∨n=9∨n=10∨n=11∨n=12:=by
 have:=zby.1 h;omega
theorem zed {n:Int} (h:rng 1 15 n=true):n=1∨n=2∨n=3∨n=4∨n=5∨n=6∨n=7∨n=8∨n=9∨n=10∨n=11∨n=12∨n=13∨n=14∨n=15:=by
 have:=zby.1 h;omega
theorem za3r {s k:Int} (hs:rng 1 12 s=true) (hk:rng 1 15 k=true):qfk s k=some (zjq s k):=by
 rcases zkm hs with h|h|h|h|h|h|h|h|h|h|h|h<;>subst h<;>
  rcases zed hk with h|h|h|h|h|h|h|h|h|h|h|h|h|h|h<;>subst h<;>rfl
theorem za3s (c:Custody):qfl c=some (zi5 c):=by
 unfold qfl zi5 zavs
 simp -zeta only[k_or,za7,zh6,zam0,zle]
 dsimp only
 cases hb:(decide (c.State<1)||decide (12<c.State)||(decide (c.Branch<1)||decide (4<c.Branch))) with
 |true=>
  have:(decide (c.State<1)||decide (12<c.State)||decide (c.Branch<1)||decide (4<c.Branch))=true:=by rw[←hb,Bool.or_assoc _ _ (decide (4<c.Branch))]
  rw[this];rfl
 |false=>
  have:(decide (c.State<1)||decide (12<c.State)||decide (c.Branch<1)||decide (4<c.Branch))=false:=by rw[←hb,Bool.or_assoc _ _ (decide (4<c.Branch))]
  rw[this]
  have hr:rng 1 12 c.State=true:=by
   simp only[Bool.or_eq_false_iff,decide_eq_false_iff_not]at hb
   rw[zby];omega
  unfold rng
  simp only[cond_false]
  generalize decide (0≤c.Who)=a1
  generalize decide (c.Who≤9999)=a2
  generalize decide (1≤c.Who)=a3
  generalize decide (1≤c.To)=a4
  generalize decide (c.To≤4)=a5
  generalize (c.To==0)=a6
  generalize (c.To==c.Branch)=a7
  generalize (c.Who==0)=a8
  rcases zkm hr with h|h|h|h|h|h|h|h|h|h|h|h<;>rw[h]<;>revert a1 a2 a3 a4 a5 a6 a7 a8<;>decide
theorem zam6 (c:Custody) (ok:Bool):qcy c ok=some (bif ok then (c,0) else (⟨0,0,0,0⟩,1)):=by
 cases ok<;>rfl
theorem za3t (c:Custody) (m:Move):qfo c m=some (bif !(m.Branch==c.Branch) then (⟨6,c.Branch,m.Who,m.Branch⟩,0) else (⟨0,0,0,0⟩,1)):=by
 unfold qfo
 rw[zam6]
theorem za3j (c:Custody) (m:Move):qei c m=some (zbc c m):=by
 unfold qei zbc
 simp -zeta only[k_or,za7,zh6,zam0,za3s]
 dsimp only
 have hw:(!(rng 0 109572 m.Day)||!(rng 1 9999 m.Item)||!(rng 1 15 m.Kind)||!(rng 1 4 m.Branch)||!(rng 0 9999 m.Who))=!(zi6 m):=by
  unfold zi6 rng
  simp only[Bool.not_and,Bool.or_assoc]
 rw[show (!(zi5 c)||!(rng 0 109572 m.Day)||!(rng 1 9999 m.Item)||!(rng 1 15 m.Kind)||!(rng 1 4 m.Branch)||!(rng 0 9999 m.Who))=(!(zi5 c)||!(zi6 m)) by rw[←hw];simp only[Bool.or_assoc]]
 cases hb:(!(zi5 c)||!(zi6 m)) with
 |true=>rfl
 |false=>
  simp only[Bool.or_eq_false_iff,Bool.not_eq_false']at hb
  obtain ⟨h1,h2⟩:=hb
  rw[h2,Bool.not_true]at hw
  simp only[Bool.or_eq_false_iff,Bool.not_eq_false']at hw
  obtain ⟨⟨⟨⟨w1,w2⟩,w3⟩,w4⟩,w5⟩:=hw
  have hs:rng 1 12 c.State=true:=by
   unfold zi5 at h1
   rw[zby]
   cases hq:(decide (c.State<1)||decide (12<c.State)||decide (c.Branch<1)||decide (4<c.Branch)) with
   |true=>rw[hq]at h1;cases h1
   |false=>simp only[Bool.or_eq_false_iff,decide_eq_false_iff_not]at hq;omega
  rw[za3r hs w3]
  simp only[cond_false]
  cases ha:zjq c.State m.Kind with
  |false=>rfl
  |true=>
   simp only[Bool.not_true,cond_false]
   have h0:=(zby.1 w5).1
   unfold z95 zc5
   simp only[zam6,za3t]
   generalize (c.State==5)=g5
   generalize (m.Who==c.Who)=g7
   generalize (m.Branch==c.To)=g6
   by_cases hw0:m.Who=0
   ·have e2:decide (1≤m.Who)=false:=by rw[decide_eq_false_iff_not];omega
    rw[e2]
    simp only[hw0]
    by_cases hb:m.Branch=c.Branch
    ·simp only[hb,beq_self_eq_true]
     rcases zed w3 with h|h|h|h|h|h|h|h|h|h|h|h|h|h|h<;>
      (simp only[h];cases g5<;>cases g6<;>cases g7<;>rfl)
    ·have e3:(m.Branch==c.Branch)=false:=by simpa using hb
     simp only[e3]
     rcases zed w3 with h|h|h|h|h|h|h|h|h|h|h|h|h|h|h<;>
      (simp only[h];cases g5<;>cases g6<;>cases g7<;>rfl)
   ·have e2:decide (1≤m.Who)=true:=by rw[decide_eq_true_eq];omega
    have e1:(m.Who==0)=false:=by simpa using hw0
    rw[e2]
    simp only[e1]
    by_cases hb:m.Branch=c.Branch
    ·simp only[hb,beq_self_eq_true]
     rcases zed w3 with h|h|h|h|h|h|h|h|h|h|h|h|h|h|h<;>
      (simp only[h];cases g5<;>cases g6<;>cases g7<;>rfl)
    ·have e3:(m.Branch==c.Branch)=false:=by simpa using hb
     simp only[e3]
     rcases zed w3 with h|h|h|h|h|h|h|h|h|h|h|h|h|h|h<;>
      (simp only[h];cases g5<;>cases g6<;>cases g7<;>rfl)
end Go.Proofs.YtdahfgialanmpaaGreatDoor
namespace Go.Proofs.YtdahfgialanmpaaGreatDoor
open Ev
open Go (IntKind)
theorem za2q {c:Circ} {item:Int} (hl:c.Items.length<1000000000):qaa c item=some (fIdx (fun x=>x.ID==item) c.Items):=by
 unfold qaa
 rw[za3i (fun x=>x.ID==item) hl (fun x _=>rfl)]
theorem zlp {c:Circ} {item:Int} (hl:c.Holds.length<1000000000):qba c item=some (zbp c item):=by
 unfold qba zbp
 rw[z0d (p:=fun (g:Unit×Int×Unit) x0=>qc0 x0 g.2.1) (g:=((),(item,()))) (fun x=>x.Got==item) hl (fun x _=>rfl)]
 rcases zbf (fun x:Hold=>x.Got==item) c.Holds with ⟨h1,h2⟩|⟨i,x,h1,h2,h3,h4⟩
 ·simp only[h1,h2,zpv,cond_true]
  try rfl
 ·simp only[h1,h4,zh0,cond_false,zag,h2]
def zc3 (x:Item):Bool:=rng 1 9999 x.ID&&rng 1 9999 x.Record&&rng 1 4 x.Branch&&rng 1 9 x.Kind&&rng 0 100000000 x.Price&&decide ((x.Call.length:Int)≤200)&&vld x.Call
def zc6 (c:Circ) (x:Item):Bool:=!(!((zef x.Branch c.Moves x.ID).2.2==0)||!(zbj (zef x.Branch c.Moves x.ID).1 x.Custody))
def z9k (c:Circ):Bool:=c.Moves.all (fun m=>(c.Items.find? (fun x=>x.ID==m.Item)).isSome)
def zin (c:Circ):Bool:=!(decide (64<(c.Items.length:Int))||decide (2000<(c.Moves.length:Int)))&&(zc9 (fun i x=>!(!(zc3 x)||zbt c.Items i (fun y=>decide (x.ID≤y.ID)))) 0 c.Items&&(z9k c&&c.Items.all (zc6 c)))
end Go.Proofs.YtdahfgialanmpaaGreatDoor
namespace Go.Proofs.YtdahfgialanmpaaGreatDoor
open Ev
open Go (IntKind)
theorem zeg {X:Type} {key:X→Int} {l:List X} (h:∀i x,l[i]?=some x→zbt l i (fun y=>decide (key x≤key y))=false):∀(j i:Nat) (x y:X),i<j→l[i]?=some x→l[j]?=some y→key x<key y:=by
 intro j
 induction j with
 |zero=>intro i x y hi;omega
 |succ j ih=>
  intro i x y hi hx hy
  have hj:=(List.getElem?_eq_some_iff.1 hy).1
  have hz:l[j]?=some l[j]:=List.getElem?_eq_getElem (by omega)
  have:=h _ _ hy
  simp only[zbt,hz,decide_eq_false_iff_not]at this
  by_cases e:i=j
  ·subst e
   rw[hz]at hx;cases hx;omega
  ·have:=ih i x l[j] (by omega) hx hz
   omega
theorem zmj {X:Type} {key:X→Int} {l:List X} (h:∀i x,l[i]?=some x→zbt l i (fun y=>decide (key x≤key y))=false) {x:X} (hx:x∈l):l.find? (fun y=>key y==key x)=some x:=by
 rcases zbf (fun y=>key y==key x) l with ⟨h1,h2⟩|⟨i,y,h1,h2,h3,h4⟩
 ·rw[List.find?_eq_none]at h2
  exact absurd (beq_self_eq_true _) (h2 x hx)
 ·rw[h4]
  obtain ⟨j,hj⟩:=List.getElem?_of_mem hx
  have e:key y=key x:=by simpa using h3
  by_cases hij:i=j
  ·subst hij;rw[h2]at hj;exact hj
  ·rcases Nat.lt_or_gt_of_ne hij with hlt|hlt
   ·have:=zeg h _ _ _ _ hlt h2 hj;omega
   ·have:=zeg h _ _ _ _ hlt hj h2;omega
theorem zkl {X:Type} {f:Nat→X→Int}:∀{l:List X} {k:Nat},zb9 f k l=0→∀i x,l[i]?=some x→f (k+i) x=0:=by
 intro l
 induction l with
 |nil=>intro k _ i x hx;simp at hx
 |cons y l ih=>
  intro k h i x hx
  unfold zb9 at h
  by_cases e:f k y=0
  ·rw[e]at h
   simp only[beq_self_eq_true,if_true]at h
   cases i with
   |zero=>simp at hx;subst hx;exact e
   |succ i=>have:=ih h i x (by simpa using hx);rwa [show k+(i+1)=k+1+i by omega]
  ·have:(f k y==0)=false:=by simpa using e
   rw[this]at h
   exact absurd h e
theorem zb5 {b:Bool} {n m:Int} (h:(bif b then n else m)=0) (hn:n≠0):b=false:=by
 cases b with
 |false=>rfl
 |true=>exact absurd h hn
theorem zhd {l:List Hold} (h:zd3 l=0):zb9 (zdi l) 0 l=0:=by
 unfold zd3 at h
 rw[zb5 h (by decide)]at h
 simp only[cond_false]at h
 by_cases e:zb9 (zdi l) 0 l=0
 ·exact e
 ·have h2:(zb9 (zdi l) 0 l==0)=false:=by simpa using e
  rw[h2]at h
  exact h
theorem zr7 {l:List Hold} (h:zd3 l=0):∀i x,l[i]?=some x→zbt l i (fun y=>decide (x.ID≤y.ID))=false:=by
 intro i x hx
 have:=zkl (k:=0) (zhd h) i x hx
 rw[Nat.zero_add,zhc]at this
 exact zb5 this (by decide)
theorem znp {l:List Hold} (h:zd3 l=0) {x:Hold} (hx:x∈l):zbo x=0:=by
 obtain ⟨i,hi⟩:=List.getElem?_of_mem hx
 have:=zkl (k:=0) (zhd h) i x hi
 rw[Nat.zero_add,zhc]at this
 rw[zb5 this (by decide)]at this
 exact this
theorem z1x {x:Hold} (h:zbo x=0):x.State=1∨x.State=2∨x.State=3:=by
 unfold zbo at h
 rw[zb5 h (by decide)]at h
 simp only[cond_false]at h
 have:=zb5 h (by decide)
 simp only[Bool.or_eq_false_iff,decide_eq_false_iff_not]at this
 omega
theorem zkj {a b:Custody}:zbj a b=true↔a=b:=by
 obtain ⟨a1,a2,a3,a4⟩:=a
 obtain ⟨b1,b2,b3,b4⟩:=b
 unfold zbj
 simp[Bool.and_eq_true]
 try (constructor<;>(intro h;simp_all))
end Go.Proofs.YtdahfgialanmpaaGreatDoor
namespace Go.Proofs.YtdahfgialanmpaaGreatDoor
open Ev
open Go (IntKind)
theorem zvt (c:Circ) (i:Nat) (x:Item):zd4 c i x=(!(!(zc3 x)||zbt c.Items i (fun y=>decide (x.ID≤y.ID)))&&zc6 c x):=by
 unfold zd4 zc6 zc3
 rw[Bool.eq_iff_iff]
 simp only[Bool.and_eq_true,Bool.not_eq_true',Bool.or_eq_false_iff,decide_eq_false_iff_not,Bool.not_eq_false',zby,decide_eq_true_eq]
 constructor
 ·rintro ⟨⟨h1,h2⟩,h3⟩
  obtain ⟨⟨⟨⟨⟨⟨a1,a2⟩,a3⟩,a4⟩,a5⟩,a6⟩,a7⟩:=h1
  obtain ⟨⟨⟨⟨⟨b1,b2⟩,b3⟩,b4⟩,b5⟩,b6⟩:=h2
  refine ⟨⟨⟨⟨⟨⟨⟨⟨⟨?_,?_⟩,⟨?_,?_⟩⟩,⟨?_,?_⟩⟩,⟨?_,?_⟩⟩,⟨?_,?_⟩⟩,?_⟩,b6⟩,a3⟩,h3⟩<;>omega
 ·rintro ⟨⟨h1,a3⟩,h3⟩
  obtain ⟨⟨⟨⟨⟨⟨⟨a1,a2⟩,⟨a4,a5⟩⟩,⟨a6,a7⟩⟩,⟨a8,a9⟩⟩,⟨b1,b2⟩⟩,b3⟩,b4⟩:=h1
  refine ⟨⟨⟨⟨⟨⟨⟨⟨?_,?_⟩,a3⟩,?_⟩,?_⟩,?_⟩,?_⟩,⟨⟨⟨⟨⟨?_,?_⟩,?_⟩,?_⟩,?_⟩,b4⟩⟩,h3⟩<;>omega
theorem zse (c:Circ):ze8 c=zin c:=by
 have key:zc9 (zd4 c) 0 c.Items=(zc9 (fun i x=>!(!(zc3 x)||zbt c.Items i (fun y=>decide (x.ID≤y.ID)))) 0 c.Items&&c.Items.all (zc6 c)):=by
  have gen:∀(l:List Item) (k:Nat),zc9 (zd4 c) k l=(zc9 (fun i x=>!(!(zc3 x)||zbt c.Items i (fun y=>decide (x.ID≤y.ID)))) k l&&l.all (zc6 c)):=by
   intro l
   induction l with
   |nil=>intro k;rfl
   |cons x l ih=>
    intro k
    simp only[zc9,List.all_cons]
    rw[ih,zvt]
    generalize (!(!(zc3 x)||zbt c.Items k (fun y=>decide (x.ID≤y.ID))))=b1
    generalize zc9 (fun i x=>!(!(zc3 x)||zbt c.Items i (fun y=>decide (x.ID≤y.ID)))) (k+1) l=b2
    cases b1<;>cases b2<;>cases zc6 c x<;>cases l.all (zc6 c)<;>rfl
  exact gen _ _
 unfold ze8 zin z9k
 rw[key]
 generalize (!(decide (64<(c.Items.length:Int))||decide (2000<(c.Moves.length:Int))))=b1
 generalize zc9 (fun i x=>!(!(zc3 x)||zbt c.Items i (fun y=>decide (x.ID≤y.ID)))) 0 c.Items=b2
 generalize c.Moves.all (fun m=>(c.Items.find? (fun x=>x.ID==m.Item)).isSome)=b3
 cases b1<;>cases b2<;>cases b3<;>cases c.Items.all (zc6 c)<;>rfl
theorem zio {c:Circ} (h:zin c=true):∀i x,c.Items[i]?=some x→zbt c.Items i (fun y=>decide (x.ID≤y.ID))=false:=by
 intro i x hx
 unfold zin at h
 simp only[Bool.and_eq_true]at h
 have:=(zjp.1 h.2.1) i x hx
 rw[Nat.zero_add]at this
 simp only[Bool.not_eq_true',Bool.or_eq_false_iff]at this
 exact this.2
theorem zsf {c:Circ} (h:zin c=true) {x:Item} (hx:x∈c.Items):zc6 c x=true:=by
 unfold zin at h
 simp only[Bool.and_eq_true,List.all_eq_true]at h
 exact h.2.2.2 x hx
end Go.Proofs.YtdahfgialanmpaaGreatDoor
namespace Go.Proofs.YtdahfgialanmpaaGreatDoor
open Ev
open Go (IntKind)
theorem zc1 {X:Type} (l:List X):l.all (fun _=>true)=true:=by rw[List.all_eq_true];intros;rfl
theorem zbk (x:Custody):zbj x x=true:=by simp[zbj]
theorem zp1 (x:Item):zp0 x x=true:=by simp[zp0,zbk]
theorem zkk (x:Patron):zh2 x x=true:=by simp[zh2,zbk]
theorem zp3 (x:Loan):zp2 x x=true:=by simp[zp2,zbk]
theorem zpz (x:Hold):zpy x x=true:=by simp[zpy,zbk]
theorem zki (x:Charge):zh1 x x=true:=by simp[zh1,zbk]
theorem zp7 (x:Rule):zp6 x x=true:=by simp[zp6,zbk]
theorem zp5 (x:Move):zp4 x x=true:=by simp[zp4,zbk]
theorem z25 {c:Circ} (hs:Short c):zad zwd (0,c,c,())=some (.inl (c,c,())):=by
 have h:=zav (step:=zwd) (fun i=>((i:Int),c,c,())) c.Items (fun _ _=>true) (.inr (false,())) (.inl (c,c,())) hs.items
  (by simp only[zwd,dge,cond_false])
  (fun i x hx=>by
   have hi:=(List.getElem?_eq_some_iff.1 hx).1
   have:=hs.items
   simp only[zwd,dlt hi,zag,hx,cond_true,zp1,Bool.not_true,cond_false,zam (show i<9223372036854775807 by omega)])
 rw[show zad zwd (0,c,c,())=_ from h,zay]
 rw[zc1];rfl
theorem zv7 {c:Circ} (hs:Short c):zad zlu (0,c,c,())=some (.inl (c,c,())):=by
 have h:=zav (step:=zlu) (fun i=>((i:Int),c,c,())) c.Patrons (fun _ _=>true) (.inr (false,())) (.inl (c,c,())) hs.patrons
  (by simp only[zlu,dge,cond_false])
  (fun i x hx=>by
   have hi:=(List.getElem?_eq_some_iff.1 hx).1
   have:=hs.patrons
   simp only[zlu,dlt hi,zag,hx,cond_true,zkk,Bool.not_true,cond_false,zam (show i<9223372036854775807 by omega)])
 rw[show zad zlu (0,c,c,())=_ from h,zay]
 rw[zc1];rfl
theorem zv8 {c:Circ} (hs:Short c):zad zlv (0,c,c,())=some (.inl (c,c,())):=by
 have h:=zav (step:=zlv) (fun i=>((i:Int),c,c,())) c.Loans (fun _ _=>true) (.inr (false,())) (.inl (c,c,())) hs.loans
  (by simp only[zlv,dge,cond_false])
  (fun i x hx=>by
   have hi:=(List.getElem?_eq_some_iff.1 hx).1
   have:=hs.loans
   simp only[zlv,dlt hi,zag,hx,cond_true,zp3,Bool.not_true,cond_false,zam (show i<9223372036854775807 by omega)])
 rw[show zad zlv (0,c,c,())=_ from h,zay]
 rw[zc1];rfl
theorem zv9 {c:Circ} (hs:Short c):zad zlw (0,c,c,())=some (.inl (c,c,())):=by
 have h:=zav (step:=zlw) (fun i=>((i:Int),c,c,())) c.Holds (fun _ _=>true) (.inr (false,())) (.inl (c,c,())) hs.holds
  (by simp only[zlw,dge,cond_false])
  (fun i x hx=>by
   have hi:=(List.getElem?_eq_some_iff.1 hx).1
   have:=hs.holds
   simp only[zlw,dlt hi,zag,hx,cond_true,zpz,Bool.not_true,cond_false,zam (show i<9223372036854775807 by omega)])
 rw[show zad zlw (0,c,c,())=_ from h,zay]
 rw[zc1];rfl
theorem zwa {c:Circ} (hs:Short c):zad zlx (0,c,c,())=some (.inl (c,c,())):=by
 have h:=zav (step:=zlx) (fun i=>((i:Int),c,c,())) c.Charges (fun _ _=>true) (.inr (false,())) (.inl (c,c,())) hs.charges
  (by simp only[zlx,dge,cond_false])
  (fun i x hx=>by
   have hi:=(List.getElem?_eq_some_iff.1 hx).1
   have:=hs.charges
   simp only[zlx,dlt hi,zag,hx,cond_true,zki,Bool.not_true,cond_false,zam (show i<9223372036854775807 by omega)])
 rw[show zad zlx (0,c,c,())=_ from h,zay]
 rw[zc1];rfl
theorem zwb {c:Circ} (hs:Short c):zad zly (0,c,c,())=some (.inl (c,c,())):=by
 have h:=zav (step:=zly) (fun i=>((i:Int),c,c,())) c.Rules (fun _ _=>true) (.inr (false,())) (.inl (c,c,())) hs.rules
  (by simp only[zly,dge,cond_false])
  (fun i x hx=>by
   have hi:=(List.getElem?_eq_some_iff.1 hx).1
   have:=hs.rules
   simp only[zly,dlt hi,zag,hx,cond_true,zp7,Bool.not_true,cond_false,zam (show i<9223372036854775807 by omega)])
 rw[show zad zly (0,c,c,())=_ from h,zay]
 rw[zc1];rfl
theorem zwc {c:Circ} (hs:Short c):zad zlz (0,c,c,())=some (.inl (c,c,())):=by
 have h:=zav (step:=zlz) (fun i=>((i:Int),c,c,())) c.Moves (fun _ _=>true) (.inr (false,())) (.inl (c,c,())) hs.moves
  (by simp only[zlz,dge,cond_false])
  (fun i x hx=>by
   have hi:=(List.getElem?_eq_some_iff.1 hx).1
   have:=hs.moves
   simp only[zlz,dlt hi,zag,hx,cond_true,zp5,Bool.not_true,cond_false,zam (show i<9223372036854775807 by omega)])
 rw[show zad zlz (0,c,c,())=_ from h,zay]
 rw[zc1];rfl
theorem zwl {c:Circ} (hs:Short c):zad zei (0,0,c,c,())=some (.inl (0,c,c,())):=by
 have st:∀k:Int,zei (0,k,c,c,())=(bif decide (k<(c.Cals.x0.Closed.length:Int)) then (match getI c.Cals.x0.Closed k with|some x=>(match getI c.Cals.x0.Closed k with|some y=>(bif !(x==y) then some (.inr (.inr (false,()))) else some (.inl (0,wr .i64 (k+1),c,c,())))|none=>none)|none=>none) else some (.inr (.inl (0,c,c,())))):=fun k=>rfl
 have h:=zav (step:=zei) (fun k=>(0,(k:Int),c,c,())) c.Cals.x0.Closed (fun _ _=>true) (.inr (false,())) (.inl (0,c,c,())) hs.cal0
  (by rw[st];simp only[dge,cond_false])
  (fun k x hx=>by
   have hi:=(List.getElem?_eq_some_iff.1 hx).1
   have:=hs.cal0
   rw[st]
   simp only[dlt hi,zag,hx,cond_true,beq_self_eq_true,Bool.not_true,cond_false,zam (show k<9223372036854775807 by omega)])
 rw[show zad zei (0,0,c,c,())=_ from h,zay]
 rw[zc1];rfl
theorem zaid {c:Circ} (hs:Short c):zi7 (0,c,c,())=some (.inl (1,c,c,())):=by
 have st:zi7 (0,c,c,())=(bif !(c.Cals.x0.Week==c.Cals.x0.Week) then some (.inr (.inr (false,()))) else bif !((c.Cals.x0.Closed.length:Int)==(c.Cals.x0.Closed.length:Int)) then some (.inr (.inr (false,()))) else
  match zad zei (0,0,c,c,()) with
  |some (.inl (i,a,b,_))=>some (.inl (wr .i64 (i+1),a,b,()))
  |some (.inr (v,_))=>some (.inr (.inr (v,())))
  |none=>none):=by
  show (bif !(c.Cals.x0.Week==c.Cals.x0.Week) then _ else _)=_
  cases (!(c.Cals.x0.Week==c.Cals.x0.Week))<;>rfl
 rw[st,zwl hs]
 simp only[beq_self_eq_true,Bool.not_true,cond_false]
 try rfl
theorem zwm {c:Circ} (hs:Short c):zad zei (1,0,c,c,())=some (.inl (1,c,c,())):=by
 have st:∀k:Int,zei (1,k,c,c,())=(bif decide (k<(c.Cals.x1.Closed.length:Int)) then (match getI c.Cals.x1.Closed k with|some x=>(match getI c.Cals.x1.Closed k with|some y=>(bif !(x==y) then some (.inr (.inr (false,()))) else some (.inl (1,wr .i64 (k+1),c,c,())))|none=>none)|none=>none) else some (.inr (.inl (1,c,c,())))):=fun k=>rfl
 have h:=zav (step:=zei) (fun k=>(1,(k:Int),c,c,())) c.Cals.x1.Closed (fun _ _=>true) (.inr (false,())) (.inl (1,c,c,())) hs.cal1
  (by rw[st];simp only[dge,cond_false])
  (fun k x hx=>by
   have hi:=(List.getElem?_eq_some_iff.1 hx).1
   have:=hs.cal1
   rw[st]
   simp only[dlt hi,zag,hx,cond_true,beq_self_eq_true,Bool.not_true,cond_false,zam (show k<9223372036854775807 by omega)])
 rw[show zad zei (1,0,c,c,())=_ from h,zay]
 rw[zc1];rfl
theorem zaie {c:Circ} (hs:Short c):zi7 (1,c,c,())=some (.inl (2,c,c,())):=by
 have st:zi7 (1,c,c,())=(bif !(c.Cals.x1.Week==c.Cals.x1.Week) then some (.inr (.inr (false,()))) else bif !((c.Cals.x1.Closed.length:Int)==(c.Cals.x1.Closed.length:Int)) then some (.inr (.inr (false,()))) else
  match zad zei (1,0,c,c,()) with
  |some (.inl (i,a,b,_))=>some (.inl (wr .i64 (i+1),a,b,()))
  |some (.inr (v,_))=>some (.inr (.inr (v,())))
  |none=>none):=by
  show (bif !(c.Cals.x1.Week==c.Cals.x1.Week) then _ else _)=_
  cases (!(c.Cals.x1.Week==c.Cals.x1.Week))<;>rfl
 rw[st,zwm hs]
 simp only[beq_self_eq_true,Bool.not_true,cond_false]
 try rfl
theorem zwn {c:Circ} (hs:Short c):zad zei (2,0,c,c,())=some (.inl (2,c,c,())):=by
 have st:∀k:Int,zei (2,k,c,c,())=(bif decide (k<(c.Cals.x2.Closed.length:Int)) then (match getI c.Cals.x2.Closed k with|some x=>(match getI c.Cals.x2.Closed k with|some y=>(bif !(x==y) then some (.inr (.inr (false,()))) else some (.inl (2,wr .i64 (k+1),c,c,())))|none=>none)|none=>none) else some (.inr (.inl (2,c,c,())))):=fun k=>rfl
 have h:=zav (step:=zei) (fun k=>(2,(k:Int),c,c,())) c.Cals.x2.Closed (fun _ _=>true) (.inr (false,())) (.inl (2,c,c,())) hs.cal2
  (by rw[st];simp only[dge,cond_false])
  (fun k x hx=>by
   have hi:=(List.getElem?_eq_some_iff.1 hx).1
   have:=hs.cal2
   rw[st]
   simp only[dlt hi,zag,hx,cond_true,beq_self_eq_true,Bool.not_true,cond_false,zam (show k<9223372036854775807 by omega)])
 rw[show zad zei (2,0,c,c,())=_ from h,zay]
 rw[zc1];rfl
theorem zaif {c:Circ} (hs:Short c):zi7 (2,c,c,())=some (.inl (3,c,c,())):=by
 have st:zi7 (2,c,c,())=(bif !(c.Cals.x2.Week==c.Cals.x2.Week) then some (.inr (.inr (false,()))) else bif !((c.Cals.x2.Closed.length:Int)==(c.Cals.x2.Closed.length:Int)) then some (.inr (.inr (false,()))) else
  match zad zei (2,0,c,c,()) with
  |some (.inl (i,a,b,_))=>some (.inl (wr .i64 (i+1),a,b,()))
  |some (.inr (v,_))=>some (.inr (.inr (v,())))
  |none=>none):=by
  show (bif !(c.Cals.x2.Week==c.Cals.x2.Week) then _ else _)=_
  cases (!(c.Cals.x2.Week==c.Cals.x2.Week))<;>rfl
 rw[st,zwn hs]
 simp only[beq_self_eq_true,Bool.not_true,cond_false]
 try rfl
theorem zwo {c:Circ} (hs:Short c):zad zei (3,0,c,c,())=some (.inl (3,c,c,())):=by
 have st:∀k:Int,zei (3,k,c,c,())=(bif decide (k<(c.Cals.x3.Closed.length:Int)) then (match getI c.Cals.x3.Closed k with|some x=>(match getI c.Cals.x3.Closed k with|some y=>(bif !(x==y) then some (.inr (.inr (false,()))) else some (.inl (3,wr .i64 (k+1),c,c,())))|none=>none)|none=>none) else some (.inr (.inl (3,c,c,())))):=fun k=>rfl
 have h:=zav (step:=zei) (fun k=>(3,(k:Int),c,c,())) c.Cals.x3.Closed (fun _ _=>true) (.inr (false,())) (.inl (3,c,c,())) hs.cal3
  (by rw[st];simp only[dge,cond_false])
  (fun k x hx=>by
   have hi:=(List.getElem?_eq_some_iff.1 hx).1
   have:=hs.cal3
   rw[st]
   simp only[dlt hi,zag,hx,cond_true,beq_self_eq_true,Bool.not_true,cond_false,zam (show k<9223372036854775807 by omega)])
 rw[show zad zei (3,0,c,c,())=_ from h,zay]
 rw[zc1];rfl
theorem zaig {c:Circ} (hs:Short c):zi7 (3,c,c,())=some (.inl (4,c,c,())):=by
 have st:zi7 (3,c,c,())=(bif !(c.Cals.x3.Week==c.Cals.x3.Week) then some (.inr (.inr (false,()))) else bif !((c.Cals.x3.Closed.length:Int)==(c.Cals.x3.Closed.length:Int)) then some (.inr (.inr (false,()))) else
  match zad zei (3,0,c,c,()) with
  |some (.inl (i,a,b,_))=>some (.inl (wr .i64 (i+1),a,b,()))
  |some (.inr (v,_))=>some (.inr (.inr (v,())))
  |none=>none):=by
  show (bif !(c.Cals.x3.Week==c.Cals.x3.Week) then _ else _)=_
  cases (!(c.Cals.x3.Week==c.Cals.x3.Week))<;>rfl
 rw[st,zwo hs]
 simp only[beq_self_eq_true,Bool.not_true,cond_false]
 try rfl
theorem zavt {c:Circ} (hs:Short c):qx c c=some true:=by
 have s4:zi7 (4,c,c,())=some (.inr (.inl ())):=rfl
 have h:zad zi7 (0,c,c,())=some (.inl ()):=by
  refine zbd 5 (by rw[za4];omega) ?_
  simp only[za1,zaid hs,zaie hs,zaif hs,zaig hs,s4]
 unfold qx
 rw[h]
theorem zavm {c:Circ} (hs:Short c):qc c c=some true:=by
 unfold qc
 simp -zeta only[k_or,beq_self_eq_true,Bool.not_true,Bool.or_false]
 dsimp only
 simp only[z25 hs,zv7 hs,zv8 hs,zv9 hs,zwa hs,zwb hs,zwc hs,zavt hs,Bool.or_false,cond_false]
end Go.Proofs.YtdahfgialanmpaaGreatDoor
namespace Go.Proofs.YtdahfgialanmpaaGreatDoor
open Ev
open Go (IntKind)
theorem zee {n m:Nat} (h:n+m≤1000000100):decide (n+m≤LIM)=true:=by rw[decide_eq_true_eq];unfold LIM;omega
theorem zi8 {X:Type} {s:List X} (h:s.length<1000000000):decide (([]:List X).length+s.length≤LIM)=true:=zee (by simp;omega)
def zdy:Circ:=⟨0,[],[],[],[],[],[],⟨⟨0,[]⟩,⟨0,[]⟩,⟨0,[]⟩,⟨0,[]⟩⟩,[],0,0,false⟩
theorem zt0:Short zdy:=by
 constructor<;>first|(show (0:Nat)<_;decide)|(intro x hx;cases hx)
end Go.Proofs.YtdahfgialanmpaaGreatDoor
namespace Go.Proofs.YtdahfgialanmpaaGreatDoor
open Ev
open Go (IntKind)
def ChOk (x:Charge):Prop:=0≤x.Paid∧x.Paid<x.Amount∧x.Amount≤100000000
theorem z1c {l:List Charge} (h:za3 l=0):l.length≤128∧∀x∈l,ChOk x:=by
 unfold za3 at h
 rw[Bool.cond_eq_ite]at h
 split at h
 ·omega
 ·rename_i hlen
  simp only[decide_eq_true_eq]at hlen
  refine ⟨by omega,fun x hx=>?_⟩
  obtain ⟨i,hi⟩:=List.getElem?_of_mem hx
  have:=z1q.1 h i x hi
  unfold zcb at this
  simp only[Bool.cond_eq_ite]at this
  split at this
  ·omega
  ·split at this
   ·omega
   ·split at this
    ·omega
    ·split at this
     ·omega
     ·rename_i h4
      simp only[Bool.or_eq_true,decide_eq_true_eq,not_or]at h4
      unfold ChOk
      omega
def owed (p:Int):List Charge→Int
 | []=>0
 |x::l=>(bif x.Patron==p then x.Amount-x.Paid else 0)+owed p l
end Go.Proofs.YtdahfgialanmpaaGreatDoor
namespace Go.Proofs.YtdahfgialanmpaaGreatDoor
open Ev
open Go (IntKind)
end Go.Proofs.YtdahfgialanmpaaGreatDoor
namespace Go.Proofs.YtdahfgialanmpaaGreatDoor
open Ev
open Go (IntKind)
def zdo (r:Rule):Int:=(bif !(r.Patron==0) then 4 else 0)+((bif !(r.Item==0) then 2 else 0)+(bif !(r.Branch==0) then 1 else 0))
theorem za3g (r:Rule):qe0 r=some (zdo r):=by
 unfold qe0 zdo
 cases r.Patron==0<;>cases r.Item==0<;>cases r.Branch==0<;>rfl
theorem za25 (r:Rule):qbj r=some (zdo r):=by
 unfold qbj
 have st:∀(a b c n:Int),(∀(m:Int),zir (m,3,0,[a,b,c],())=some (.inl (bif !(a==0) then wr .i64 ((wr .i64 (m*2))+1) else wr .i64 (m*2),3,1,[a,b,c],())))∧
  (∀(m:Int),zir (m,3,1,[a,b,c],())=some (.inl (bif !(b==0) then wr .i64 ((wr .i64 (m*2))+1) else wr .i64 (m*2),3,2,[a,b,c],())))∧
  (∀(m:Int),zir (m,3,2,[a,b,c],())=some (.inl (bif !(c==0) then wr .i64 ((wr .i64 (m*2))+1) else wr .i64 (m*2),3,3,[a,b,c],()))):=fun a b c n=>
  ⟨fun m=>by show (bif !(a==0) then _ else _)=_;cases a==0<;>rfl,fun m=>by show (bif !(b==0) then _ else _)=_;cases b==0<;>rfl,fun m=>by show (bif !(c==0) then _ else _)=_;cases c==0<;>rfl⟩
 obtain ⟨s0,s1,s2⟩:=st r.Patron r.Item r.Branch 0
 have s3:∀m:Int,zir (m,3,3,[r.Patron,r.Item,r.Branch],())=some (.inr (m,())):=fun m=>rfl
 have h:zad zir (0,(([r.Patron,r.Item,r.Branch]).length:Int),0,[r.Patron,r.Item,r.Branch],())=some (zdo r,()):=by
  refine zbd 4 (by rw[za4];omega) ?_
  show za1 zir 4 (0,3,0,[r.Patron,r.Item,r.Branch],())=_
  simp only[za1,s0,s1,s2,s3]
  unfold zdo
  cases r.Patron==0<;>cases r.Item==0<;>cases r.Branch==0<;>rfl
 rw[h]
def zmz (r:Rule) (p i b:Int):Bool:=(r.Patron==0||r.Patron==p)&&(r.Item==0||r.Item==i)&&(r.Branch==0||r.Branch==b)
theorem zana (r:Rule) (p i b:Int):qfg r p i b=some (zmz r p i b):=by
 unfold qfg zmz
 simp -zeta only[k_or,za7]
 try rfl
theorem za3n (a b:Int):qet a b=some (a==0||a==b):=by
 unfold qet
 cases a==0<;>rfl
theorem zams (r:Rule) (p i b:Int):qb9 r p i b=some (zmz r p i b):=by
 unfold qb9 zmz
 simp -zeta only[za3n,k_or,za7]
 try dsimp only
def wB (l:List Rule) (b:Int):Int:=match getI l b with|some y=>zdo y|none=>0
def zrd (l:List Rule) (p it br:Int) (i:Nat) (x:Rule) (b:Int):Int:=bif zmz x p it br&&(decide (b<0)||decide (wB l b<zdo x)) then (i:Int) else b
def zadw (l:List Rule) (p it br:Int):Int:=zc7 (fun i x b=>.inl (zrd l p it br i x b)) (fun b=>b) 0 l (-1)
def zfs (l:List Rule) (b:Int):Prop:=b<0∨∃k:Nat,b=(k:Int)∧k<l.length
theorem zre {l:List Rule} {b:Int} (h:zfs l b) (hb:decide (b<0)=false):∃y,getI l b=some y∧wB l b=zdo y:=by
 rcases h with h|⟨k,rfl,hk⟩
 ·rw[decide_eq_false_iff_not]at hb;omega
 ·have:getI l (k:Int)=some l[k]:=by rw[zag,List.getElem?_eq_getElem hk]
  exact ⟨_,this,by unfold wB;rw[this]⟩
theorem zjw {l:List Rule} {p it br:Int} {i:Nat} {x:Rule} {b:Int} (h:zfs l b) (hi:i<l.length):zfs l (zrd l p it br i x b):=by
 unfold zrd
 cases zmz x p it br&&(decide (b<0)||decide (wB l b<zdo x)) with
 |true=>exact .inr ⟨i,rfl,hi⟩
 |false=>exact h
theorem zub {X σ β γ:Type} {f:Nat→X→σ→σ} {g:σ→β} (k:β→γ):∀{l:List X} {i:Nat} {s:σ},k (zc7 (fun i x s=>.inl (f i x s)) g i l s)=zc7 (fun i x s=>.inl (f i x s)) (fun s=>k (g s)) i l s:=by
 intro l
 induction l with
 |nil=>intros;rfl
 |cons x l ih=>intro i s;simp only[zc7];exact ih
theorem za21 {l:List Rule} {p it br:Int} (hl:l.length<1000000000):qay l p it br=some (zadw l p it br):=by
 have h:=zbg (step:=zlo) (fun (i:Nat) (b:Int)=>zfs l b) (fun i b=>(l,p,it,br,b,l,(l.length:Int),(i:Int),())) l
  (fun i x b=>.inl (zrd l p it br i x b)) (fun b=>(b,())) (by rw[za4];omega)
  (fun b _=>by simp only[zlo,dge,cond_false])
  (fun i x b hx hi=>by
   have hlt:=(List.getElem?_eq_some_iff.1 hx).1
   refine ⟨?_,fun s' hs'=>by cases hs';exact zjw hi hlt⟩
   unfold zrd
   cases hb:decide (b<0) with
   |true=>
    simp only[zlo,dlt hlt,zag,hx,cond_true,zams,hb,zam (show i<9223372036854775807 by omega)]
    cases zmz x p it br<;>rfl
   |false=>
    obtain ⟨y,h1,h2⟩:=zre hi hb
    simp only[zlo,dlt hlt,zag,hx,cond_true,cond_false,zams,za25,h1,h2,hb,zam (show i<9223372036854775807 by omega)]
    cases zmz x p it br<;>cases decide (zdo y<zdo x)<;>rfl) (-1) (.inl (by omega))
 unfold qay
 rw[show zad zlo (l,p,it,br,(-1),l,(l.length:Int),0,())=_ from h,←zub (g:=fun b=>b) (fun b:Int=>(b,()))]
 try rfl
theorem zam1 {l:List Rule} {p it br:Int} (hl:l.length<1000000000):qbw l p it br=some (zadw l p it br):=by
 have h:=zbg (step:=zlr) (fun (i:Nat) (b:Int)=>zfs l b) (fun i b=>(l,p,it,br,b,(i:Int),())) l
  (fun i x b=>.inl (zrd l p it br i x b)) (fun b=>(b,())) (by rw[za4];omega)
  (fun b _=>by simp only[zlr,dge,cond_false])
  (fun i x b hx hi=>by
   have hlt:=(List.getElem?_eq_some_iff.1 hx).1
   refine ⟨?_,fun s' hs'=>by cases hs';exact zjw hi hlt⟩
   unfold zrd
   cases hb:decide (b<0) with
   |true=>
    simp only[zlr,dlt hlt,zag,hx,cond_true,zana,hb,zam (show i<9223372036854775807 by omega)]
    cases zmz x p it br<;>rfl
   |false=>
    obtain ⟨y,h1,h2⟩:=zre hi hb
    simp only[zlr,dlt hlt,zag,hx,cond_true,cond_false,zana,za3g,h1,h2,hb,zam (show i<9223372036854775807 by omega)]
    cases zmz x p it br<;>cases decide (zdo y<zdo x)<;>rfl) (-1) (.inl (by omega))
 unfold qbw
 rw[show zad zlr (l,p,it,br,(-1),0,())=_ from h,←zub (g:=fun b=>b) (fun b:Int=>(b,()))]
 try rfl
theorem zavq {l:List Rule} {p it br:Int} (hl:l.length<1000000000):qdg l p it br=qf2 l p it br:=by
 unfold qdg qf2
 rw[za21 hl,zam1 hl]
 try rfl
theorem z9z {c:Circ} {p:Int} {x:Item} (hs:Short c):qca c p x=qe3 c p x:=by
 unfold qca qe3
 rw[za3b hs.patrons,zl0 hs.patrons]
 dsimp only
 rw[zavq hs.rules]
 try rfl
def calS (c:Circ) (b:Int):Calendar:=bif b==1 then c.Cals.x0 else bif b==2 then c.Cals.x1 else bif b==3 then c.Cals.x2 else c.Cals.x3
theorem znm {n:Int} (h:rng 1 4 n=true):n=1∨n=2∨n=3∨n=4:=by
 have:=zby.1 h;omega
theorem za30 {c:Circ} {b:Int} (h:rng 1 4 b=true):qo c b=some (calS c b):=by
 rcases znm h with h|h|h|h<;>subst h<;>rfl
theorem z90 {c:Circ} {b:Int} (h:rng 1 4 b=true):qcl c b=some (calS c b):=by
 rcases znm h with h|h|h|h<;>subst h<;>rfl
end Go.Proofs.YtdahfgialanmpaaGreatDoor
namespace Go.Proofs.YtdahfgialanmpaaGreatDoor
open Ev
open Go (IntKind)
def zbq (week:Int) (i:Nat):Bool:=(wr .i64 (BitVec.ofInt 64 (week.fdiv (2 ^ (min i 64))) &&& BitVec.ofInt 64 1).toNat)==0
theorem zamp (c:Calendar):qax c=some ⟨zbq c.Week 0,zbq c.Week 1,zbq c.Week 2,zbq c.Week 3,zbq c.Week 4,zbq c.Week 5,zbq c.Week 6⟩:=by
 have h:zad z9x (0,c,(⟨false,false,false,false,false,false,false⟩:V7 Bool),(⟨false,false,false,false,false,false,false⟩:V7 Bool),())=some ((⟨false,false,false,false,false,false,false⟩:V7 Bool),(⟨zbq c.Week 0,zbq c.Week 1,zbq c.Week 2,zbq c.Week 3,zbq c.Week 4,zbq c.Week 5,zbq c.Week 6⟩:V7 Bool),()):=by
  refine zbd 8 (by rw[za4];omega) ?_
  try rfl
 unfold qax
 rw[h]
def bitW:Int→Nat→Int
 |n,0=>n
 |n,k+1=>bitW (wr .i64 (n.tdiv 2)) k
theorem zaae {day n:Int} {c:Calendar}:∀(k:Nat) (i:Nat) (n:Int),i+k<100→za1 z3g (k+1) (day,n,((i+k:Nat):Int),(i:Int),c,())=some (day,bitW n k,c,()):=by
 intro k
 induction k with
 |zero=>
  intro i n hi
  have:decide ((i:Int)<((i+0:Nat):Int))=false:=by rw[decide_eq_false_iff_not];omega
  simp only[za1,z3g,this,cond_false,bitW]
 |succ k ih=>
  intro i n hi
  have:decide ((i:Int)<((i+(k+1):Nat):Int))=true:=by rw[decide_eq_true_eq];omega
  rw[za1]
  simp only[z3g,this,cond_true,zam (show i<9223372036854775807 by omega),bitW]
  have:=ih (i+1) (wr .i64 (n.tdiv 2)) (by omega)
  rw[show i+1+k=i+(k+1) by omega]at this
  exact this
theorem z3w:((List.range 127).all fun n=>(List.range 7).all fun w=>zbq (n:Int) w==!((bitW (n:Int) w).tmod 2==1))=true:=by kernel_rfl
theorem zadd {week:Int} {w:Nat} (h1:0≤week) (h2:week≤126) (hw:w<7):zbq week w=!((bitW week w).tmod 2==1):=by
 obtain ⟨n,rfl⟩:∃n:Nat,week=(n:Int):=⟨week.toNat,by omega⟩
 have h:=z3w
 rw[List.all_eq_true]at h
 have h3:=h n (List.mem_range.2 (by omega))
 rw[List.all_eq_true]at h3
 have h4:=h3 w (List.mem_range.2 hw)
 simpa using h4
def lbS (t:Int) (l:List Int):Nat:=(l.takeWhile (fun x=>decide (x<t))).length
theorem za46 {t:Int} {l:List Int}:lbS t l≤l.length:=by
 unfold lbS
 have:=(List.takeWhile_prefix (fun x=>decide (x<t)) (l:=l)).length_le
 exact this
theorem zsg {t:Int}:∀{l:List Int} {k:Nat} {x:Int},k<lbS t l→l[k]?=some x→x<t:=by
 intro l
 induction l with
 |nil=>intro k x h;simp[lbS]at h
 |cons y l ih=>
  intro k x h hx
  unfold lbS at h ih
  rw[List.takeWhile_cons]at h
  by_cases hy:y<t
  ·simp only[hy,decide_true,if_true,List.length_cons]at h
   cases k with
   |zero=>simp at hx;omega
   |succ k=>exact ih (k:=k) (by omega) (by simpa using hx)
  ·simp[hy]at h
theorem za2h {t:Int}:∀{l:List Int} {x:Int},l[lbS t l]?=some x→¬x<t:=by
 intro l
 induction l with
 |nil=>intro x h;simp[lbS]at h
 |cons y l ih=>
  intro x hx
  unfold lbS at hx ih
  rw[List.takeWhile_cons]at hx
  by_cases hy:y<t
  ·simp only[hy,decide_true,if_true,List.length_cons,List.getElem?_cons_succ]at hx
   exact ih hx
  ·simp[hy]at hx;omega
theorem zamf {t:Int} {l:List Int} (hsort:∀(j i:Nat) (x y:Int),i<j→l[i]?=some x→l[j]?=some y→x<y) {k:Nat} {x:Int} (hx:l[k]?=some x):decide (x<t)=decide (k<lbS t l):=by
 rw[decide_eq_decide]
 constructor
 ·intro h
  by_cases hk:k<lbS t l
  ·exact hk
  ·exfalso
   have hlt:lbS t l<l.length:=by have:=(List.getElem?_eq_some_iff.1 hx).1;omega
   have hz:l[lbS t l]?=some l[lbS t l]:=List.getElem?_eq_getElem hlt
   have:=za2h hz
   by_cases e:lbS t l=k
   ·subst e
    rw[hz]at hx;cases hx;exact this h
   ·have:=hsort k (lbS t l) _ _ (by omega) hz hx;omega
 ·intro h;exact zsg h hx
theorem za2j {i j:Nat} (h:i+j<2000000000):wr .i64 ((wr .u64 (wr .i64 ((i:Int)+(j:Int)))).fdiv (2 ^ 1))=(((i+j) / 2:Nat):Int):=by
 rw[zco (n:=(i:Int)+(j:Int)) (by omega) (by omega)]
 have:wr .u64 ((i:Int)+(j:Int))=(i:Int)+(j:Int):=by
  unfold wr;simp[IntKind.wrap,IntKind.bits,IntKind.signed];omega
 rw[this,Int.fdiv_eq_ediv_of_nonneg _ (by omega)]
 have e:((i:Int)+(j:Int)) / 2 ^ 1=(((i+j) / 2:Nat):Int):=by omega
 rw[e,zco (by omega) (by omega)]
theorem za3q (x y:Int):qfc x y=some (decide (x<y)):=by
 have e:∀z:Int,qfa z=some false:=fun z=>by unfold qfa;simp
 unfold qfc
 rw[e]
 try rfl
theorem z3n {l:List Int} {t:Int} (hl:l.length<1000000000) (hsort:∀(j i:Nat) (x y:Int),i<j→l[i]?=some x→l[j]?=some y→x<y) :
 zad zn8 (l,t,(l.length:Int),0,(l.length:Int),())=some (l,t,(l.length:Int),(lbS t l:Int),()):=by
 refine zade (step:=zn8) (fun a=>∃i j:Nat,a=(l,t,(l.length:Int),(i:Int),(j:Int),())∧i≤lbS t l∧lbS t l≤j∧j≤l.length) (fun a=>(a.2.2.2.2.1-a.2.2.2.1).toNat) (fun _=>(l,t,(l.length:Int),(lbS t l:Int),())) ?_ ⟨0,l.length,rfl,by omega,za46,by omega⟩ (by rw[za4];show ((l.length:Int)-0).toNat<_;omega)
 rintro a ⟨i,j,rfl,h1,h2,h3⟩
 by_cases hij:i<j
 ·left
  have d:decide ((i:Int)<(j:Int))=true:=by rw[decide_eq_true_eq];omega
  have hm:(i+j) / 2<l.length:=by omega
  have hx:l[(i+j) / 2]?=some l[(i+j) / 2]:=List.getElem?_eq_getElem hm
  have hlb:=zamf (t:=t) hsort hx
  simp only[zn8,d,cond_true,za2j (show i+j<2000000000 by omega),zag,hx,za3q,hlb]
  by_cases hk:(i+j) / 2<lbS t l
  ·rw[show decide ((i+j) / 2<lbS t l)=true by rw[decide_eq_true_eq];exact hk]
   simp only[cond_true,zam (show (i+j) / 2<9223372036854775807 by omega)]
   exact ⟨_,rfl,⟨(i+j) / 2+1,j,rfl,by omega,h2,h3⟩,by simp only;omega,trivial⟩
  ·rw[show decide ((i+j) / 2<lbS t l)=false by rw[decide_eq_false_iff_not];exact hk]
   simp only[cond_false]
   exact ⟨_,rfl,⟨i,(i+j) / 2,rfl,h1,by omega,by omega⟩,by simp only;omega,trivial⟩
 ·right
  have d:decide ((i:Int)<(j:Int))=false:=by rw[decide_eq_false_iff_not];omega
  have hi:i=lbS t l:=by omega
  subst hi
  simp only[zn8,d,cond_false]
theorem zaar {l:List Int} {t:Int} (hl:l.length<1000000000) (hsort:∀(j i:Nat) (x y:Int),i<j→l[i]?=some x→l[j]?=some y→x<y) :
 qa1 l t=some ((lbS t l:Int),l.any (fun x=>x==t)):=by
 unfold qa1
 rw[z3n hl hsort]
 by_cases hk:lbS t l<l.length
 ·have d:decide ((lbS t l:Int)<(l.length:Int))=true:=by rw[decide_eq_true_eq];omega
  have hx:l[lbS t l]?=some l[lbS t l]:=List.getElem?_eq_getElem hk
  have hn:qer l[lbS t l]=some false:=by unfold qer;simp
  simp only[d,cond_true,zag,hx,hn,cond_false]
  have e:(l[lbS t l]==t)=l.any (fun x=>x==t):=by
   rw[Bool.eq_iff_iff,List.any_eq_true]
   constructor
   ·intro h;exact ⟨_,List.getElem_mem hk,h⟩
   ·rintro ⟨x,hm,he⟩
    have he':x=t:=by simpa using he
    obtain ⟨i,hi⟩:=List.getElem?_of_mem hm
    have h1:=zamf (t:=t) hsort hi
    have h2:=za2h hx
    rw[decide_eq_decide]at h1
    by_cases e:i=lbS t l
    ·rw[e,hx]at hi;cases hi;exact he
    ·have:lbS t l<i:=by omega
     have:=hsort _ _ _ _ this hx hi
     omega
  rw[←e]
  cases l[lbS t l]==t<;>rfl
 ·have d:decide ((lbS t l:Int)<(l.length:Int))=false:=by rw[decide_eq_false_iff_not];omega
  have e:l.any (fun x=>x==t)=false:=by
   rw[List.any_eq_false]
   intro x hm he
   have he':x=t:=by simpa using he
   obtain ⟨i,hi⟩:=List.getElem?_of_mem hm
   have:=(List.getElem?_eq_some_iff.1 hi).1
   have:=zsg (t:=t) (show i<lbS t l by omega) hi
   omega
  simp only[d,cond_false,e]
end Go.Proofs.YtdahfgialanmpaaGreatDoor
namespace Go.Proofs.YtdahfgialanmpaaGreatDoor
open Ev
open Go (IntKind)
theorem zkq {l:List Int} (h:incr l=true):∀(j i:Nat) (x y:Int),i<j→l[i]?=some x→l[j]?=some y→x<y:=by
 have h2:∀i x,l[i]?=some x→zbt l i (fun y=>decide (x≤y))=false:=by
  intro i x hx
  have:=(zjp.1 h) i x hx
  rw[Nat.zero_add]at this
  simpa using this
 exact zeg (key:=fun x:Int=>x) h2
structure CalOk (c:Calendar):Prop where
 w1:0≤c.Week
 w2:c.Week≤126
 len:c.Closed.length<1000000000
 inc:incr c.Closed=true
theorem zadz {c:Calendar} (h:(zcj c==0)=true):CalOk c:=by
 have h:zcj c=0:=by simpa using h
 unfold zcj at h
 have h1:=zb5 h (by decide)
 rw[h1]at h
 simp only[cond_false]at h
 have h2:=zb5 h (by decide)
 rw[h2]at h
 simp only[cond_false]at h
 simp only[Bool.or_eq_false_iff,decide_eq_false_iff_not]at h1 h2
 cases h3:c.Closed.all (fun x=>!(decide (x<0)||decide (109572<x))) with
 |false=>rw[h3]at h;cases h
 |true=>
  rw[h3]at h
  cases h4:incr c.Closed with
  |false=>rw[h4]at h;cases h
  |true=>exact ⟨by omega,by omega,by omega,h4⟩
def zhk (c:Calendar) (d:Int):Bool:=rng 0 109572 d&&(!(c.Closed.any (fun x=>x==d))&&zbq c.Week (d.tmod 7).toNat)
theorem zazh {d:Int} (h:0≤d):0≤d.tmod 7∧d.tmod 7<7:=by
 rw[Int.tmod_eq_emod_of_nonneg h];omega
theorem zam4 {c:Calendar} (hc:CalOk c) (d:Int):qch c d=some (zhk c d):=by
 unfold qch zhk
 rw[z92]
 dsimp only
 cases hr:rng 0 109572 d with
 |false=>rfl
 |true=>
  simp -zeta only[Bool.not_true,cond_false,Bool.true_and]
  rw[zaar hc.len (zkq hc.inc)]
  dsimp only
  cases c.Closed.any (fun x=>x==d) with
  |true=>rfl
  |false=>
   have hk:qde d=some (d.tmod 7):=by
    have e:qft d=some (rng 0 109572 d):=by
     unfold qft
     simp -zeta only[za7]
     try rfl
    unfold qde
    rw[e,hr]
    try rfl
   simp only[Bool.not_false,cond_true,zamp,hk,Bool.true_and]
   obtain ⟨h1,h2⟩:=zazh (zby.1 hr).1
   generalize d.tmod 7=w at h1 h2
   have:w=0∨w=1∨w=2∨w=3∨w=4∨w=5∨w=6:=by omega
   rcases this with h|h|h|h|h|h|h<;>subst h<;>rfl
theorem z3f {c:Calendar} {d:Int} (hl:c.Closed.length<1000000000):zad zl5 (d,0,c,())=some (bif c.Closed.all (fun x=>!(x==d)) then .inl () else .inr (false,())):=by
 have h:=zav (step:=zl5) (fun i=>(d,(i:Int),c,())) c.Closed (fun _ x=>!(x==d)) (.inr (false,())) (.inl ()) hl
  (by simp only[zl5,dge,cond_false])
  (fun i x hx=>by
   have hi:=(List.getElem?_eq_some_iff.1 hx).1
   simp only[zl5,dlt hi,zag,hx,cond_true,zam (show i<9223372036854775807 by omega)]
   cases x==d<;>rfl)
 rw[show zad zl5 (d,0,c,())=_ from h,zay]
theorem zavu {c:Calendar} (hc:CalOk c) (d:Int):qz c d=some (zhk c d):=by
 unfold qz zhk
 simp -zeta only[k_or]
 dsimp only
 rw[←zle]
 cases hr:rng 0 109572 d with
 |false=>rfl
 |true=>
  have hk:qfd d=some (d.tmod 7):=by
   have e:qf3 d=some (rng 0 109572 d):=by
    unfold qf3
    simp -zeta only[za7]
    try rfl
   unfold qfd
   rw[e,hr]
   try rfl
  simp only[Bool.not_true,cond_false,Bool.true_and,hk]
  obtain ⟨h1,h2⟩:=zazh (zby.1 hr).1
  generalize d.tmod 7=w at h1 h2
  obtain ⟨n,rfl⟩:∃n:Nat,w=(n:Int):=⟨w.toNat,by omega⟩
  have hn:n<7:=by omega
  have hw:zad z3g (d,c.Week,(n:Int),0,c,())=some (d,bitW c.Week n,c,()):=by
   have:=zaae (day:=d) (n:=0) (c:=c) n 0 c.Week (by omega)
   rw[Nat.zero_add]at this
   exact zbd (n+1) (by rw[za4];omega) this
  simp only[hw,Int.toNat_natCast,zadd hc.w1 hc.w2 hn,z3f hc.len]
  cases (bitW c.Week n).tmod 2==1 with
  |true=>simp
  |false=>
   simp only[cond_false,Bool.not_false,Bool.and_true,z4f,Bool.not_not]
   cases c.Closed.all (fun x=>!(x==d))<;>rfl
theorem zuo {α β:Type} {s1 s2:α→Option (α⊕β)} (Inv:α→Prop) (h:∀a,Inv a→s1 a=s2 a) (hi:∀a b,Inv a→s1 a=some (.inl b)→Inv b) {a:α} (ha:Inv a):zad s1 a=zad s2 a:=by
 have key:∀n a,Inv a→za1 s1 n a=za1 s2 n a:=by
  intro n
  induction n with
  |zero=>intro a _;rfl
  |succ n ih=>
   intro a ha
   simp only[za1]
   rw[←h a ha]
   cases hs:s1 a with
   |none=>rfl
   |some x=>
    cases x with
    |inl b=>exact ih b (hi a b ha hs)
    |inr b=>rfl
 exact key FUEL a ha
theorem z9t {c:Calendar} (hc:CalOk c) (d:Int):qa3 c d=qbm c d:=by
 have h:∀d0:Int,zad zt4 (d0,c,())=zad zom (d0,c,()):=fun d0=>by
  refine zuo (fun a=>a.2.1=c) ?_ ?_ rfl
  ·rintro ⟨d,c',_⟩ (rfl:c'=c)
   simp only[zt4,zom,zam4 hc,zavu hc]
  ·rintro ⟨d,c',_⟩ b (rfl:c'=c) hb
   simp only[zt4,zam4 hc]at hb
   cases hq:decide (d≤109572) with
   |false=>rw[hq]at hb;cases hb
   |true=>
    rw[hq]at hb
    simp only[cond_true]at hb
    cases ho:zhk c' d with
    |true=>rw[ho]at hb;cases hb
    |false=>rw[ho]at hb;cases hb;rfl
 unfold qa3 qbm
 rw[h]
 try rfl
end Go.Proofs.YtdahfgialanmpaaGreatDoor
namespace Go.Proofs.YtdahfgialanmpaaGreatDoor
open Ev
open Go (IntKind)
end Go.Proofs.YtdahfgialanmpaaGreatDoor
namespace Go.Proofs.YtdahfgialanmpaaGreatDoor
open Ev
open Go (IntKind)
theorem zqf {l:List Loan} {item:Int} (hl:l.length<1000000000):qbn (fun (g:Unit×Int×Unit) x0=>qcg x0 g.2.1) l ((),(item,())) =
 some (match l.find? (fun n=>n.Item==item) with|some x=>(x,fIdx (fun n=>n.Item==item) l)|none=>((⟨0,0,0,0,0,false⟩:Loan),-1)):=by
 unfold qbn
 rw[za3z (p:=fun (g:Unit×Int×Unit) x0=>qcg x0 g.2.1) (g:=((),(item,()))) (fun x=>x.Item==item) hl (fun x _=>rfl)]
 rcases zbf (fun x:Loan=>x.Item==item) l with ⟨h1,h2⟩|⟨i,x,h1,h2,h3,h4⟩
 ·simp only[h1,h2,zpv,cond_true]
 ·simp only[h1,h4,zh0,cond_false,zag,h2]
def zcs (c:Circ) (l:List Loan):Circ:=⟨c.Today,c.Items,c.Patrons,l,c.Holds,c.Charges,c.Rules,c.Cals,c.Moves,c.NextHold,c.NextCharge,c.Local⟩
theorem zpu (c:Circ) (l:List Loan):qcm l 0 ⟨c,0⟩=some ((),⟨zcs c l,0⟩):=rfl
end Go.Proofs.YtdahfgialanmpaaGreatDoor
namespace Go.Proofs.YtdahfgialanmpaaGreatDoor
open Ev
open Go (IntKind)
structure FitP (c:Circ):Prop where
 charges:za3 c.Charges=0
 loans:zhi c.Loans=0
 holds:zd3 c.Holds=0
 rules:zge c.Rules=0
 patrons:zfb c.Patrons=0
 cal0:CalOk c.Cals.x0
 cal1:CalOk c.Cals.x1
 cal2:CalOk c.Cals.x2
 cal3:CalOk c.Cals.x3
 items:zin c=true
 loanG:∀n∈c.Loans,zhh c n=true
 itemG:∀x∈c.Items,(zr4 c.Loans x.ID).2=zhl x.Custody
 holdG:∀h∈c.Holds,zgc c h=true
 readyG:∀x∈c.Items,zf5 c x=true
 nums:zqq c=true
theorem fitP {c:Circ} (h:zou c=true):FitP c:=by
 unfold zou at h
 rw[zse]at h
 simp only[Bool.and_eq_true]at h
 obtain ⟨h1,h2,h3,h4,h5,h6,h7⟩:=h
 unfold zkw at h2
 simp only[Bool.not_eq_true',Bool.or_eq_false_iff,Bool.not_eq_false',beq_iff_eq]at h2
 unfold zg4 at h3
 simp only[Bool.and_eq_true]at h3
 unfold zf2 at h6
 unfold zf0 at h7
 simp only[Bool.and_eq_true,List.all_eq_true,beq_iff_eq]at h6 h7
 exact ⟨h2.1.2,h2.1.1.1.2,h2.1.1.2,h2.2,h2.1.1.1.1,zadz h3.1,zadz h3.2.1,zadz h3.2.2.1,zadz h3.2.2.2,h5,h6.1,h6.2,h7.1,h7.2,h1⟩
theorem zaop {c:Circ} (h:FitP c) (b:Int):CalOk (calS c b):=by
 unfold calS
 cases b==1 with
 |true=>exact h.cal0
 |false=>
  cases b==2 with
  |true=>exact h.cal1
  |false=>
   cases b==3 with
   |true=>exact h.cal2
   |false=>exact h.cal3
theorem zavv {c:Circ} (h:FitP c) {r:Rule} (hr:r∈c.Rules):zis r=true:=by
 have h:=h.rules
 unfold zge at h
 rw[zb5 h (by decide)]at h
 obtain ⟨i,hi⟩:=List.getElem?_of_mem hr
 have:=zkl (k:=0) h i r hi
 rw[Nat.zero_add]at this
 unfold zgy at this
 have:=zb5 this (by decide)
 simpa using this
def zfg (c:Custody):Prop:=rng 1 4 c.Branch=true
theorem zt9 {c:Custody} (h:zi5 c=true):zfg c:=by
 unfold zi5 at h
 unfold zfg
 cases hq:(decide (c.State<1)||decide (12<c.State)||decide (c.Branch<1)||decide (4<c.Branch)) with
 |true=>rw[hq]at h;cases h
 |false=>
  simp only[Bool.or_eq_false_iff,decide_eq_false_iff_not]at hq
  rw[zby];omega
theorem zq1 {m:Move} (h:zi6 m=true):rng 1 4 m.Branch=true:=by
 unfold zi6 at h
 simp only[Bool.and_eq_true,decide_eq_true_eq]at h
 rw[zby];omega
theorem zg1 {c:Custody} {m:Move} (h:((zbc c m).2==0)=true):zfg (zbc c m).1:=by
 unfold zbc at h ⊢
 cases e1:(!(zi5 c)||!(zi6 m)) with
 |true=>rw[e1]at h;cases h
 |false=>
  have e0:=e1
  simp only[Bool.or_eq_false_iff,Bool.not_eq_false']at e0
  have b1:=zt9 e0.1
  have b2:=zq1 e0.2
  rw[e1]at h
  simp only[cond_false]at h ⊢
  cases e2:!(zjq c.State m.Kind) with
  |true=>rw[e2]at h;cases h
  |false=>
   rw[e2]at h
   simp only[cond_false]at h ⊢
   cases e3:(m.Kind==3&&c.State==5&&!(m.Who==c.Who)) with
   |true=>rw[e3]at h;cases h
   |false=>
    rw[e3]at h
    simp only[cond_false]at h ⊢
    cases e4:!(z95 c m) with
    |true=>rw[e4]at h;cases h
    |false=>
     simp only[cond_false]
     cases (zc5 m.Kind==2) with
     |true=>exact b2
     |false=>
      simp only[cond_false]
      cases (zc5 m.Kind==4||(zc5 m.Kind==5||zc5 m.Kind==8)) with
      |true=>exact b1
      |false=>
       simp only[cond_false]
       cases e5:(zc5 m.Kind==6) with
       |true=>exact b1
       |false=>
        simp only[cond_false]
        cases (zc5 m.Kind==9||zc5 m.Kind==10) with
        |true=>exact b1
        |false=>exact b1
theorem zm8:∀{l:List Move} {i:Nat} {item:Int} {c d:Custody},zfg c→zdk i l item c=.inl d→zfg d:=by
 intro l
 induction l with
 |nil=>intro i item c d hc h;simp only[zdk]at h;cases h;exact hc
 |cons x l ih=>
  intro i item c d hc h
  simp only[zdk]at h
  cases e:x.Item==item with
  |false=>rw[e]at h;exact ih hc h
  |true=>
   rw[e]at h
   simp only[cond_true]at h
   cases e2:(zbc c x).2==0 with
   |true=>rw[e2]at h;exact ih (zg1 e2) h
   |false=>rw[e2]at h;cases h
theorem zl8 {c:Circ} {x:Item} (h:zc6 c x=true):zfg x.Custody:=by
 unfold zc6 at h
 simp only[Bool.not_eq_true',Bool.or_eq_false_iff,Bool.not_eq_false',beq_iff_eq]at h
 obtain ⟨h1,h2⟩:=h
 have e:=zkj.1 h2
 rw[←e]
 unfold zef at h1 ⊢
 cases hb:(decide (x.Branch<1)||decide (4<x.Branch)) with
 |true=>rw[hb]at h1;cases h1
 |false=>
  rw[hb]at h1
  simp only[cond_false]at h1 ⊢
  have hb2:zfg (zwe x.Branch):=by
   simp only[Bool.or_eq_false_iff,decide_eq_false_iff_not]at hb
   show rng 1 4 x.Branch=true
   rw[zby];omega
  cases hr:zdk 0 c.Moves x.ID (zwe x.Branch) with
  |inl d=>exact zm8 hb2 hr
  |inr p=>
   rw[hr]at h1
   exfalso
   obtain ⟨i,e⟩:=p
   simp only at h1
   have key:∀(l:List Move) (i:Nat) (c:Custody) (p:Int×Int),zdk i l x.ID c=.inr p→p.2≠0:=by
    intro l
    induction l with
    |nil=>intro i c p h;simp only[zdk]at h;cases h
    |cons y l ih=>
     intro i c p h
     simp only[zdk]at h
     cases e:y.Item==x.ID with
     |false=>rw[e]at h;exact ih _ _ _ h
     |true=>
      rw[e]at h
      simp only[cond_true]at h
      cases e2:(zbc c y).2==0 with
      |true=>rw[e2]at h;exact ih _ _ _ h
      |false=>rw[e2]at h;cases h;simpa using e2
   exact key _ _ _ _ hr h1
theorem z1t {c:Circ} (h:FitP c) {x:Item} (hx:x∈c.Items):rng 1 4 x.Custody.Branch=true:=zl8 (zsf h.items hx)
theorem z4q {l:List Rule} {p it br:Int}:zfs l (zadw l p it br):=by
 have key:∀(m:List Rule) (i:Nat) (b:Int),i+m.length=l.length→zfs l b→zfs l (zc7 (σ:=Int) (β:=Int) (fun i x b=>.inl (zrd l p it br i x b)) (fun b=>b) i m b):=by
  intro m
  induction m with
  |nil=>intro i b _ h;exact h
  |cons x m ih=>intro i b hi h;simp only[zc7];simp only[List.length_cons]at hi;exact ih _ _ (by omega) (zjw h (by omega))
 exact key l 0 (-1) (by omega) (.inl (by omega))
theorem zaao {c:Circ} (hs:Short c) {p:Int} {x:Item}:∃r b,qe3 c p x=some (r,b)∧(b=true→r∈c.Rules):=by
 unfold qe3
 rw[zl0 hs.patrons]
 dsimp only
 cases (getP c.Patrons p).2 with
 |false=>exact ⟨_,false,rfl,fun h=>by cases h⟩
 |true=>
  simp only[Bool.not_true,cond_false]
  unfold qf2
  rw[zam1 hs.rules]
  dsimp only
  rcases z4q (l:=c.Rules) (p:=(getP c.Patrons p).1.Kind) (it:=x.Kind) (br:=x.Branch) with h|⟨k,hk,hlt⟩
  ·rw[show decide (zadw c.Rules (getP c.Patrons p).1.Kind x.Kind x.Branch<0)=true by rw[decide_eq_true_eq];exact h]
   exact ⟨_,false,rfl,fun h=>by cases h⟩
  ·rw[hk,show decide ((k:Int)<0)=false by rw[decide_eq_false_iff_not];omega]
   simp only[cond_false,zag,List.getElem?_eq_getElem hlt]
   exact ⟨_,true,rfl,fun _=>List.getElem_mem hlt⟩
end Go.Proofs.YtdahfgialanmpaaGreatDoor
namespace Go.Proofs.YtdahfgialanmpaaGreatDoor
open Ev
open Go (IntKind)
theorem ziv {α β:Type} {step:α→Option (α⊕β)} (Inv:α→Prop) (μ:α→Nat) (h:∀a,Inv a→(∃a',step a=some (.inl a')∧Inv a'∧μ a'<μ a)∨∃b,step a=some (.inr b)) {a:α} (ha:Inv a) (hm:μ a<FUEL):∃r,zad step a=some r:=by
 have key:∀n a,Inv a→μ a<n→∃r,za1 step n a=some r:=by
  intro n
  induction n with
  |zero=>intro a _ h;omega
  |succ n ih=>
   intro a hi hn
   simp only[za1]
   rcases h a hi with ⟨a',h1,h2,h3⟩|⟨b,h1⟩
   ·rw[h1];exact ih a' h2 (by omega)
   ·rw[h1];exact ⟨b,rfl⟩
 exact key FUEL a ha hm
theorem ztz {c:Calendar} (hc:CalOk c) (d:Int):∃a b,qbm c d=some (a,b):=by
 obtain ⟨r,hr⟩:=ziv (step:=zom) (fun a=>0≤a.1∧a.2.1=c) (fun a=>(109573-a.1).toNat) (by
  rintro ⟨d,c',_⟩ ⟨h0,(rfl:c'=c)⟩
  simp only at h0
  simp only[zom,zavu hc]
  by_cases hq:d≤109572
  ·rw[show decide (d≤109572)=true by rw[decide_eq_true_eq];exact hq]
   simp only[cond_true]
   cases zhk c' d with
   |true=>exact .inr ⟨_,rfl⟩
   |false=>
    simp only[cond_false]
    rw[zco (by omega) (by omega)]
    exact .inl ⟨_,rfl,⟨by show 0≤d+1;omega,rfl⟩,by show (109573-(d+1)).toNat<(109573-d).toNat;omega⟩
  ·rw[show decide (d≤109572)=false by rw[decide_eq_false_iff_not];exact hq]
   exact .inr ⟨_,rfl⟩) (a:=((if d<0 then 0 else d),c,())) ⟨by show 0≤if d<0 then 0 else d;split<;>omega,rfl⟩ (by rw[za4];show (109573-if d<0 then 0 else d).toNat<_;split<;>omega)
 unfold qbm
 rw[hr]
 rcases r with _|⟨a,b,_⟩
 ·exact ⟨_,_,rfl⟩
 ·exact ⟨_,_,rfl⟩
theorem zxr {α β:Type} {b:Bool} {x y:Option (α×β)} (hx:∃u v,x=some (u,v)) (hy:∃u v,y=some (u,v)):∃u v,(bif b then x else y)=some (u,v):=by
 cases b
 ·exact hy
 ·exact hx
def zq2 (a b:Option (Circ×Int×Int)):Prop:=∃c n e,a=some (c,n,e)∧b=some (c,n,e)∧Short c
theorem zex {e:Int}:zq2 (some (zdy,0,e)) (some (zdy,0,e)):=⟨_,_,_,rfl,rfl,zt0⟩
end Go.Proofs.YtdahfgialanmpaaGreatDoor
namespace Go.Proofs.YtdahfgialanmpaaGreatDoor
open Ev
open Go (IntKind)
def getH (l:List Hold) (id:Int):Hold×Bool:=match l.find? (fun h=>h.ID==id) with|some h=>(h,true)|none=>(zn5,false)
theorem za3f {l:List Hold} {id:Int} (hl:l.length<1000000000):qd6 l id=some (getH l id):=by
 unfold qd6 qbe getH
 rw[z0d (p:=fun (g:Unit×Int×Unit) x0=>qek x0 g.2.1) (g:=((),(id,()))) (fun x=>x.ID==id) hl (fun x _=>rfl)]
 rcases zbf (fun x:Hold=>x.ID==id) l with ⟨h1,h2⟩|⟨i,x,h1,h2,h3,h4⟩
 ·simp only[h1,h2]
  try rfl
 ·have d:decide ((0:Int)≤(i:Int))=true:=by rw[decide_eq_true_eq];omega
  simp only[h1,h4,d,cond_true,zag,h2]
theorem z9v {l:List Hold} {id:Int} (hl:l.length<1000000000):qav l id=some (getH l id):=by
 unfold qav getH
 have h:=zbm (step:=zoh) (fun i=>(l,id,(i:Int),zn5,())) l (fun x=>x.ID==id) (fun _ x=>(.inr (true,x,()):(Hold×Unit)⊕(Bool×Hold×Unit))) (.inl (zn5,())) hl
  (by simp only[zoh,dge,cond_false])
  (fun i x hx=>by
   have hi:=(List.getElem?_eq_some_iff.1 hx).1
   simp only[zoh,dlt hi,zag,hx,cond_true,zam (show i<9223372036854775807 by omega)])
 rw[show zad zoh (l,id,0,(⟨0,0,0,0,0,0,0,0,0,0,0⟩:Hold),())=_ from h,zh3]
 cases l.find? (fun x=>x.ID==id)<;>rfl
theorem zun {α β γ:Type} {s1:α→Option (α⊕β)} {s2:γ→Option (γ⊕β)} (Inv:α→Prop) (φ:α→γ)
 (h:∀a,Inv a→s2 (φ a)=(match s1 a with|none=>none|some (.inl b)=>some (.inl (φ b))|some (.inr b)=>some (.inr b)))
 (hi:∀a b,Inv a→s1 a=some (.inl b)→Inv b) {a:α} (ha:Inv a):zad s2 (φ a)=zad s1 a:=by
 have key:∀n a,Inv a→za1 s2 n (φ a)=za1 s1 n a:=by
  intro n
  induction n with
  |zero=>intro a _;rfl
  |succ n ih=>
   intro a ha
   simp only[za1]
   rw[h a ha]
   cases hs:s1 a with
   |none=>rfl
   |some x=>
    cases x with
    |inl b=>exact ih b (hi a b ha hs)
    |inr b=>rfl
 exact key FUEL a ha
theorem z9w {c:Calendar} (hc:CalOk c) (day n:Int):qaw c day n=qbx c day n:=by
 have hw:zad zls (n,day,0,c,())=zad zoi (day,n,0,c,()):=by
  refine zun (s1:=zoi) (s2:=zls) (fun a=>a.2.2.2.1=c) (fun a=>(a.2.1,a.1,a.2.2.1,a.2.2.2.1,())) ?_ ?_ (a:=(day,n,0,c,())) rfl
  ·rintro ⟨d,n,i,c',_⟩ (rfl:c'=c)
   simp only[zoi,zls,z9t hc]
   cases decide (i<n) with
   |false=>rfl
   |true=>
    simp only[cond_true]
    cases qbm c' (wr .i64 (d+1)) with
    |none=>rfl
    |some p=>
     obtain ⟨a,b⟩:=p
     simp only
     cases !(b==0)<;>rfl
  ·rintro ⟨d,n,i,c',_⟩ b (rfl:c'=c) hb
   simp only[zoi]at hb
   cases hq:decide (i<n) with
   |false=>rw[hq]at hb;cases hb
   |true=>
    rw[hq]at hb
    simp only[cond_true]at hb
    cases hn:qa3 c' (wr .i64 (d+1)) with
    |none=>rw[hn]at hb;cases hb
    |some p=>
     obtain ⟨a,b2⟩:=p
     rw[hn]at hb
     simp only at hb
     cases he:!(b2==0) with
     |true=>rw[he]at hb;cases hb
     |false=>rw[he]at hb;cases hb;rfl
 unfold qaw qbx
 simp -zeta only[k_or,z92,z9t hc]
 dsimp only
 rw[hw,←zle 0 109572]
 try rfl
end Go.Proofs.YtdahfgialanmpaaGreatDoor
namespace Go.Proofs.YtdahfgialanmpaaGreatDoor
open Ev
open Go (IntKind)
theorem zat0 {c:Circ} (h:FitP c) {x:Item} (hx:x∈c.Items):1≤x.ID∧x.ID≤9999:=by
 have h:=h.items
 unfold zin at h
 simp only[Bool.and_eq_true]at h
 obtain ⟨i,hi⟩:=List.getElem?_of_mem hx
 have:=(zjp.1 h.2.1) i x hi
 rw[Nat.zero_add]at this
 simp only[Bool.not_eq_true',Bool.or_eq_false_iff,Bool.not_eq_false']at this
 have h2:=this.1
 unfold zc3 at h2
 simp only[Bool.and_eq_true,zby]at h2
 omega
def za2k:Loan:=⟨0,0,0,0,0,false⟩
theorem znr {c:Calendar} (hc:CalOk c) (d n:Int):∃a b,qbx c d n=some (a,b):=by
 unfold qbx
 simp -zeta only[k_or]
 dsimp only
 cases hb:(decide (n<0)||decide (1000<n)) with
 |true=>exact ⟨_,_,rfl⟩
 |false=>
  simp only[Bool.or_eq_false_iff,decide_eq_false_iff_not]at hb
  simp only[cond_false]
  refine zxr ⟨_,_,rfl⟩ (zxr ?_ ?_)
  ·obtain ⟨a,b,h⟩:=ztz hc d
   rw[h]
   exact ⟨_,_,rfl⟩
  ·obtain ⟨r,hr⟩:=ziv (step:=zls) (fun a=>a.1=n∧0≤a.2.2.1∧a.2.2.2.1=c) (fun a=>(n-a.2.2.1).toNat) (by
    rintro ⟨n',d,i,c',_⟩ ⟨(rfl:n'=n),h0,(rfl:c'=c)⟩
    simp only at h0
    simp only[zls]
    by_cases hq:i<n'
    ·rw[show decide (i<n')=true by rw[decide_eq_true_eq];exact hq]
     obtain ⟨a,b,h⟩:=ztz hc (wr .i64 (d+1))
     simp only[cond_true,h]
     cases !(b==0) with
     |true=>exact .inr ⟨_,rfl⟩
     |false=>
      simp only[cond_false]
      rw[zco (n:=i+1) (by omega) (by omega)]
      exact .inl ⟨_,rfl,⟨rfl,by show 0≤i+1;omega,rfl⟩,by show (n'-(i+1)).toNat<(n'-i).toNat;omega⟩
    ·rw[show decide (i<n')=false by rw[decide_eq_false_iff_not];exact hq]
     exact .inr ⟨_,rfl⟩) (a:=(n,d,0,c,())) ⟨rfl,by show (0:Int)≤0;omega,rfl⟩ (by rw[za4];show (n-0).toNat<_;omega)
   rw[hr]
   rcases r with ⟨a,_⟩|⟨a,b,_⟩
   ·exact ⟨_,_,rfl⟩
   ·exact ⟨_,_,rfl⟩
end Go.Proofs.YtdahfgialanmpaaGreatDoor
namespace Go.Proofs.YtdahfgialanmpaaGreatDoor
open Ev
open Go (IntKind)
def insW {X:Type} (lt:X→X→Bool) (y:X):List X→List X→List X
 | [],rest=>y::rest
 |z::zs,rest=>bif lt y z then insW lt y zs (z::rest) else zs.reverse++z::y::rest
theorem z7n {X:Type} {lt:X→X→Bool} {y:X}:∀{r rest more:List X},insW lt y r (rest++more)=insW lt y r rest++more:=by
 intro r
 induction r with
 |nil=>intro rest more;rfl
 |cons z zs ih=>
  intro rest more
  simp only[insW]
  cases lt y z with
  |true=>simp only[cond_true];rw[←List.cons_append,ih]
  |false=>simp
theorem z11 {X:Type} {lt:X→X→Bool} {y:X}:∀{B A rest:List X},(∀b∈B,lt y b=true)→(∀a∈A,lt y a=false)→insW lt y (B++A) rest=A.reverse++y::(B.reverse++rest):=by
 intro B
 induction B with
 |nil=>
  intro A rest _ hA
  cases A with
  |nil=>rfl
  |cons a A=>simp only[List.nil_append,insW,hA a (List.mem_cons_self ..),cond_false,List.reverse_cons,List.append_assoc,List.reverse_nil];rfl
 |cons b B ih=>
  intro A rest hB hA
  simp only[List.cons_append,insW,hB b (List.mem_cons_self ..),cond_true]
  rw[ih (fun b hb=>hB b (List.mem_cons_of_mem _ hb)) hA]
  simp
section
variable {γ:Type} {p:γ→Hold→Hold→Option Int} {g:γ} {lt:Hold→Hold→Bool}
theorem zatz (hp:∀y z,∃n,p g y z=some n∧decide (n<0)=lt y z) {b i:Int}:∀(r:List Hold) (y:Hold) (rest:List Hold),r.length<1000000→
 za1 (z3c p) (r.length+1) (0,b,g,i,(r.length:Int),r.reverse++y::rest,())=some (0,b,g,i,insW lt y r rest,()):=by
 intro r
 induction r with
 |nil=>
  intro y rest _
  simp only[List.length_nil,za1,insW,z3c]
  try rfl
 |cons z zs ih=>
  intro y rest hl
  simp only[List.length_cons]at hl
  obtain ⟨n,h1,h2⟩:=hp y z
  have d:decide ((0:Int)<((zs.length+1:Nat):Int))=true:=by rw[decide_eq_true_eq];omega
  have w:=zfn (j:=zs.length) (by omega)
  have e:(z::zs).reverse++y::rest=zs.reverse++z::y::rest:=by simp
  have gy:(zs.reverse++z::y::rest)[zs.length+1]?=some y:=by rw[List.getElem?_append_right (by simp)];simp
  have gz:(zs.reverse++z::y::rest)[zs.length]?=some z:=by rw[List.getElem?_append_right (by simp)];simp
  have s1:(zs.reverse++z::y::rest).set (zs.length+1) z=zs.reverse++z::z::rest:=by
   rw[List.set_append_right _ _ (by simp)];simp
  have gz2:(zs.reverse++z::z::rest)[zs.length]?=some z:=by rw[List.getElem?_append_right (by simp)];simp
  have s2:(zs.reverse++z::z::rest).set zs.length y=zs.reverse++y::z::rest:=by
   rw[List.set_append_right _ _ (by simp)];simp
  rw[za1,e]
  simp only[List.length_cons,z3c,d,cond_true,w,zag,Int.toNat_natCast,gy,gz,h1,h2,s1,gz2,s2,insW]
  cases lt y z with
  |true=>simp only[cond_true];exact ih y (z::rest) (by omega)
  |false=>rfl
def zfe (lt:Hold→Hold→Bool) (l:List Hold):List Hold:=l.foldl (fun pre y=>insW lt y pre.reverse []) []
theorem zgf {l:List Hold} {y:Hold}:zfe lt (l++[y])=insW lt y (zfe lt l).reverse []:=by
 unfold zfe
 rw[List.foldl_append];rfl
theorem zvr {y:Hold}:∀{r rest:List Hold},(insW lt y r rest).length=r.length+1+rest.length:=by
 intro r
 induction r with
 |nil=>intro rest;simp[insW];omega
 |cons z zs ih=>
  intro rest
  simp only[insW]
  cases lt y z with
  |true=>simp only[cond_true];rw[ih];simp;omega
  |false=>simp;omega
theorem zuh:∀{l:List Hold},(zfe lt l).length=l.length:=by
 have key:∀(l pre:List Hold),(l.foldl (fun pre y=>insW lt y pre.reverse []) pre).length=pre.length+l.length:=by
  intro l
  induction l with
  |nil=>intro pre;rfl
  |cons y l ih=>intro pre;rw[List.foldl_cons,ih,zvr];simp;omega
 intro l
 unfold zfe
 rw[key];simp
theorem zais (hp:∀y z,∃n,p g y z=some n∧decide (n<0)=lt y z) {l:List Hold} (hl:l.length<1000000):∀(k i:Nat),i+k=l.length→
 za1 (z3b p) (k+1) (0,(l.length:Int),g,(i:Int),zfe lt (l.take i)++l.drop i,())=some (zfe lt l,()):=by
 intro k
 induction k with
 |zero=>
  intro i hi
  have:i=l.length:=by omega
  subst this
  have d:decide ((l.length:Int)<(l.length:Int))=false:=by rw[decide_eq_false_iff_not];omega
  simp only[za1,z3b,d,cond_false,List.take_length,List.drop_length,List.append_nil]
 |succ k ih=>
  intro i hi
  have hlt:i<l.length:=by omega
  have d:decide ((i:Int)<(l.length:Int))=true:=by rw[decide_eq_true_eq];omega
  have hlen:(zfe lt (l.take i)).length=i:=by rw[zuh,List.length_take];omega
  have hr:=zatz (p:=p) (g:=g) (lt:=lt) hp (b:=(l.length:Int)) (i:=(i:Int)) (zfe lt (l.take i)).reverse l[i] (l.drop (i+1)) (by rw[List.length_reverse,hlen];omega)
  rw[List.length_reverse,List.reverse_reverse,hlen,←List.drop_eq_getElem_cons hlt]at hr
  have hw:zad (z3c p) (0,(l.length:Int),g,(i:Int),(i:Int),zfe lt (l.take i)++l.drop i,())=_:=zbd (i+1) (by rw[za4];omega) hr
  rw[za1]
  simp only[z3b,d,cond_true,hw,zam (show i<9223372036854775807 by omega)]
  have e:insW lt l[i] (zfe lt (l.take i)).reverse (l.drop (i+1))=zfe lt (l.take (i+1))++l.drop (i+1):=by
   have:=z7n (lt:=lt) (y:=l[i]) (r:=(zfe lt (l.take i)).reverse) (rest:=[]) (more:=l.drop (i+1))
   rw[List.nil_append]at this
   rw[this,List.take_succ_eq_append_getElem hlt,zgf]
  rw[e]
  exact ih (i+1) (by omega)
theorem zazf (hp:∀y z,∃n,p g y z=some n∧decide (n<0)=lt y z) {l:List Hold} (hl:l.length<20):qd8 p l g=some (zfe lt l):=by
 have h1:zad (zaib p) ((l.length:Int),g,20,0,20,l,())=some ((l.length:Int),g,20,0,l,()):=by
  refine zbd 1 (by rw[za4];omega) ?_
  have d:decide ((20:Int)≤(l.length:Int))=false:=by rw[decide_eq_false_iff_not];omega
  simp only[za1,zaib,d,cond_false]
 have h2:∀m:List Hold,zad (zaic p) ((l.length:Int),g,20,m,())=some (m,()):=fun m=>by
  refine zbd 1 (by rw[za4];omega) ?_
  have d:decide ((20:Int)<(l.length:Int))=false:=by rw[decide_eq_false_iff_not];omega
  simp only[za1,zaic,d,cond_false]
 have h3:qq p l 0 (l.length:Int) g=some (zfe lt l):=by
  unfold qq
  have hw:zad (z3b p) (0,(l.length:Int),g,wr .i64 (0+1),l,())=some (zfe lt l,()):=by
   cases l with
   |nil=>
    refine zbd 1 (by rw[za4];omega) ?_
    try rfl
   |cons y m=>
    have:=zais (p:=p) (g:=g) (lt:=lt) hp (l:=y::m) (by omega) m.length 1 (by simp only[List.length_cons];omega)
    exact zbd (m.length+1) (by rw[za4];simp only[List.length_cons]at hl;omega) this
  rw[hw]
 unfold qd8 qp
 rw[h1]
 simp only[h3,h2]
end
end Go.Proofs.YtdahfgialanmpaaGreatDoor
namespace Go.Proofs.YtdahfgialanmpaaGreatDoor
open Ev
open Go (IntKind)
def rk (k:Int) (l:List Hold):List Hold:=l.filter (fun x=>x.Rank==k)
def ltR (y z:Hold):Bool:=decide (z.Rank<y.Rank)
def za9 (l:List Hold):List Hold:=rk 9 l++(rk 8 l++(rk 7 l++(rk 6 l++(rk 5 l++(rk 4 l++(rk 3 l++(rk 2 l++(rk 1 l++rk 0 l))))))))
theorem za4h {k:Int} {l:List Hold} {x:Hold} (h:x∈rk k l):x.Rank=k:=by
 unfold rk at h
 rw[List.mem_filter]at h
 simpa using h.2
theorem zew (k:Int) (l:List Hold) (y:Hold):rk k (l++[y])=rk k l++(bif y.Rank==k then [y] else []):=by
 unfold rk
 rw[List.filter_append,List.filter_cons]
 cases y.Rank==k<;>simp
theorem zaty {A B:List Hold} {y:Hold} (hA:∀a∈A,y.Rank≤a.Rank) (hB:∀b∈B,b.Rank<y.Rank):insW ltR y (A++B).reverse []=A++y::B:=by
 rw[List.reverse_append,z11 (by intro b hb;rw[List.mem_reverse]at hb;unfold ltR;rw[decide_eq_true_eq];exact hB b hb) (by intro a ha;rw[List.mem_reverse]at ha;unfold ltR;rw[decide_eq_false_iff_not];have:=hA a ha;omega)]
 simp
theorem zw5:∀(m:List Hold) (l:List Hold),l=m.reverse→(∀x∈l,rng 0 9 x.Rank=true)→zfe ltR l=za9 l:=by
 intro m
 induction m with
 |nil=>intro l h _;subst h;rfl
 |cons y m ih=>
  intro l h hr
  rw[List.reverse_cons]at h
  subst h
  have hy:=zby.1 (hr y (by simp))
  rw[zgf,ih m.reverse rfl (fun x hx=>hr x (by simp at hx ⊢;exact .inl hx))]
  generalize m.reverse=l
  have hc:y.Rank=0∨y.Rank=1∨y.Rank=2∨y.Rank=3∨y.Rank=4∨y.Rank=5∨y.Rank=6∨y.Rank=7∨y.Rank=8∨y.Rank=9:=by omega
  have mid:∀(A B:List Hold),za9 l=A++B→(∀a∈A,y.Rank≤a.Rank)→(∀b∈B,b.Rank<y.Rank)→insW ltR y (za9 l).reverse []=A++y::B:=fun A B e hA hB=>by rw[e];exact zaty hA hB
  have mm:∀(k:Int) (x:Hold),x∈rk k l→x.Rank=k:=fun k x h=>za4h h
  rcases hc with h|h|h|h|h|h|h|h|h|h
  ·rw[mid (rk 9 l++(rk 8 l++(rk 7 l++(rk 6 l++(rk 5 l++(rk 4 l++(rk 3 l++(rk 2 l++(rk 1 l++rk 0 l))))))))) [] (by simp[za9]) (by intro a ha;simp only[List.mem_append]at ha;rcases ha with h|h|h|h|h|h|h|h|h|h<;>(have:=mm _ _ h;omega)) (by intro b hb;cases hb)]
   simp[za9,zew,h]
  ·rw[mid (rk 9 l++(rk 8 l++(rk 7 l++(rk 6 l++(rk 5 l++(rk 4 l++(rk 3 l++(rk 2 l++rk 1 l)))))))) (rk 0 l) (by simp[za9]) (by intro a ha;simp only[List.mem_append]at ha;rcases ha with h|h|h|h|h|h|h|h|h<;>(have:=mm _ _ h;omega)) (by intro b hb;have:=mm _ _ hb;omega)]
   simp[za9,zew,h]
  ·rw[mid (rk 9 l++(rk 8 l++(rk 7 l++(rk 6 l++(rk 5 l++(rk 4 l++(rk 3 l++rk 2 l))))))) (rk 1 l++rk 0 l) (by simp[za9]) (by intro a ha;simp only[List.mem_append]at ha;rcases ha with h|h|h|h|h|h|h|h<;>(have:=mm _ _ h;omega)) (by intro b hb;simp only[List.mem_append]at hb;rcases hb with h|h<;>(have:=mm _ _ h;omega))]
   simp[za9,zew,h]
  ·rw[mid (rk 9 l++(rk 8 l++(rk 7 l++(rk 6 l++(rk 5 l++(rk 4 l++rk 3 l)))))) (rk 2 l++(rk 1 l++rk 0 l)) (by simp[za9]) (by intro a ha;simp only[List.mem_append]at ha;rcases ha with h|h|h|h|h|h|h<;>(have:=mm _ _ h;omega)) (by intro b hb;simp only[List.mem_append]at hb;rcases hb with h|h|h<;>(have:=mm _ _ h;omega))]
   simp[za9,zew,h]
  ·rw[mid (rk 9 l++(rk 8 l++(rk 7 l++(rk 6 l++(rk 5 l++rk 4 l))))) (rk 3 l++(rk 2 l++(rk 1 l++rk 0 l))) (by simp[za9]) (by intro a ha;simp only[List.mem_append]at ha;rcases ha with h|h|h|h|h|h<;>(have:=mm _ _ h;omega)) (by intro b hb;simp only[List.mem_append]at hb;rcases hb with h|h|h|h<;>(have:=mm _ _ h;omega))]
   simp[za9,zew,h]
  ·rw[mid (rk 9 l++(rk 8 l++(rk 7 l++(rk 6 l++rk 5 l)))) (rk 4 l++(rk 3 l++(rk 2 l++(rk 1 l++rk 0 l)))) (by simp[za9]) (by intro a ha;simp only[List.mem_append]at ha;rcases ha with h|h|h|h|h<;>(have:=mm _ _ h;omega)) (by intro b hb;simp only[List.mem_append]at hb;rcases hb with h|h|h|h|h<;>(have:=mm _ _ h;omega))]
   simp[za9,zew,h]
  ·rw[mid (rk 9 l++(rk 8 l++(rk 7 l++rk 6 l))) (rk 5 l++(rk 4 l++(rk 3 l++(rk 2 l++(rk 1 l++rk 0 l))))) (by simp[za9]) (by intro a ha;simp only[List.mem_append]at ha;rcases ha with h|h|h|h<;>(have:=mm _ _ h;omega)) (by intro b hb;simp only[List.mem_append]at hb;rcases hb with h|h|h|h|h|h<;>(have:=mm _ _ h;omega))]
   simp[za9,zew,h]
  ·rw[mid (rk 9 l++(rk 8 l++rk 7 l)) (rk 6 l++(rk 5 l++(rk 4 l++(rk 3 l++(rk 2 l++(rk 1 l++rk 0 l)))))) (by simp[za9]) (by intro a ha;simp only[List.mem_append]at ha;rcases ha with h|h|h<;>(have:=mm _ _ h;omega)) (by intro b hb;simp only[List.mem_append]at hb;rcases hb with h|h|h|h|h|h|h<;>(have:=mm _ _ h;omega))]
   simp[za9,zew,h]
  ·rw[mid (rk 9 l++rk 8 l) (rk 7 l++(rk 6 l++(rk 5 l++(rk 4 l++(rk 3 l++(rk 2 l++(rk 1 l++rk 0 l))))))) (by simp[za9]) (by intro a ha;simp only[List.mem_append]at ha;rcases ha with h|h<;>(have:=mm _ _ h;omega)) (by intro b hb;simp only[List.mem_append]at hb;rcases hb with h|h|h|h|h|h|h|h<;>(have:=mm _ _ h;omega))]
   simp[za9,zew,h]
  ·rw[mid (rk 9 l) (rk 8 l++(rk 7 l++(rk 6 l++(rk 5 l++(rk 4 l++(rk 3 l++(rk 2 l++(rk 1 l++rk 0 l)))))))) (by simp[za9]) (by intro a ha;have:=mm _ _ ha;omega) (by intro b hb;simp only[List.mem_append]at hb;rcases hb with h|h|h|h|h|h|h|h|h<;>(have:=mm _ _ h;omega))]
   simp[za9,zew,h]
def zch (record day:Int) (x:Hold):Bool:=x.Record==record&&x.State==1&&decide (x.Asleep≤day)
theorem zadc (record day:Int) (x:Hold):(x.State==1&&x.Record==record&&decide (x.Asleep≤day))=zch record day x:=by
 unfold zch
 cases x.Record==record<;>cases x.State==1<;>rfl
theorem zaac (y z:Hold) (hy:rng 0 9 y.Rank=true) (hz:rng 0 9 z.Rank=true):decide (wr .i64 (z.Rank-y.Rank)<0)=ltR y z:=by
 have h1:=zby.1 hy
 have h2:=zby.1 hz
 rw[zco (by omega) (by omega)]
 unfold ltR
 rw[decide_eq_decide];omega
theorem zaf5 {lt:Hold→Hold→Bool} {y x:Hold}:∀{r rest:List Hold},x∈insW lt y r rest→x=y∨x∈r∨x∈rest:=by
 intro r
 induction r with
 |nil=>intro rest h;simp only[insW,List.mem_cons]at h;rcases h with h|h<;>simp[h]
 |cons z zs ih=>
  intro rest h
  simp only[insW]at h
  cases hb:lt y z with
  |true=>
   rw[hb]at h
   rcases ih h with h|h|h
   ·exact .inl h
   ·exact .inr (.inl (List.mem_cons_of_mem _ h))
   ·rcases List.mem_cons.1 h with h|h
    ·subst h;exact .inr (.inl (List.mem_cons_self ..))
    ·exact .inr (.inr h)
  |false=>
   rw[hb]at h
   simp only[cond_false,List.mem_append,List.mem_reverse,List.mem_cons]at h
   rcases h with h|h|h|h
   ·exact .inr (.inl (List.mem_cons_of_mem _ h))
   ·subst h;exact .inr (.inl (List.mem_cons_self ..))
   ·exact .inl h
   ·exact .inr (.inr h)
theorem z10 {lt lt':Hold→Hold→Bool} {y:Hold}:∀{r rest:List Hold},(∀z∈r,lt y z=lt' y z)→insW lt y r rest=insW lt' y r rest:=by
 intro r
 induction r with
 |nil=>intros;rfl
 |cons z zs ih=>
  intro rest h
  simp only[insW]
  rw[h z (List.mem_cons_self ..),ih (fun z hz=>h z (List.mem_cons_of_mem _ hz))]
theorem zac4 {lt lt':Hold→Hold→Bool}:∀(m l:List Hold),l=m.reverse→(∀x∈l,∀y∈l,lt x y=lt' x y)→zfe lt l=zfe lt' l∧∀x∈zfe lt' l,x∈l:=by
 intro m
 induction m with
 |nil=>intro l h _;subst h;exact ⟨rfl,fun x hx=>by cases hx⟩
 |cons y m ih=>
  intro l h hc
  rw[List.reverse_cons]at h
  subst h
  obtain ⟨e1,e2⟩:=ih m.reverse rfl (fun a ha b hb=>hc a (by simp at ha ⊢;exact .inl ha) b (by simp at hb ⊢;exact .inl hb))
  rw[zgf,zgf,e1]
  refine ⟨z10 (fun z hz=>hc y (by simp) z ?_),fun x hx=>?_⟩
  ·rw[List.mem_reverse]at hz
   have:=e2 z hz
   simp at this ⊢;exact .inl this
  ·rcases zaf5 hx with h|h|h
   ·subst h;simp
   ·rw[List.mem_reverse]at h
    have:=e2 x h
    simp at this ⊢;exact .inl this
   ·cases h
theorem z3e {l:List Hold} (hl:l.length<20) (hr:∀x∈l,rng 0 9 x.Rank=true):qd8 (fun (g:Unit×Unit) x0 x1=>qb8 x0 x1) l ((),())=some (za9 l):=by
 rw[zazf (lt:=fun y z=>decide (wr .i64 (z.Rank-y.Rank)<0)) (fun y z=>⟨_,rfl,rfl⟩) hl]
 congr 1
 rw[(zac4 l.reverse l (by simp) (fun x hx y hy=>zaac x y (hr x hx) (hr y hy))).1]
 exact zw5 l.reverse l (by simp) hr
end Go.Proofs.YtdahfgialanmpaaGreatDoor
namespace Go.Proofs.YtdahfgialanmpaaGreatDoor
open Ev
open Go (IntKind)
theorem zko {X:Type} (p:X→Bool):∀(l o:List X),l.foldl (fun s y=>bif p y then s++[y] else s) o=o++l.filter p:=by
 intro l
 induction l with
 |nil=>intro o;simp
 |cons x l ih=>intro o;rw[List.foldl_cons,ih,List.filter_cons];cases p x<;>simp
theorem zi0 {X Y:Type} (p:X→Bool) (f:X→Y):∀(l:List X) (o:List Y),l.foldl (fun s y=>bif p y then s++[f y] else s) o=o++(l.filter p).map f:=by
 intro l
 induction l with
 |nil=>intro o;simp
 |cons x l ih=>intro o;rw[List.foldl_cons,ih,List.filter_cons];cases p x<;>simp
theorem za5a {l:List Hold} {record day:Int} (hl:l.length<1000000) (h20:(l.filter (zch record day)).length<20) (hr:∀x∈l,rng 0 9 x.Rank=true):qh l record day=some (za9 (l.filter (zch record day))):=by
 have h:=zbg (step:=z26) (fun (i:Nat) (s:List Hold)=>s.length≤i) (fun i s=>(record,day,l,(l.length:Int),(i:Int),s,())) l
  (fun i y s=>.inl (bif zch record day y then s++[y] else s)) (fun s=>(s,())) (by rw[za4];omega)
  (fun s _=>by simp only[z26,dge,cond_false])
  (fun i y s hx hi=>by
   have hlt:=(List.getElem?_eq_some_iff.1 hx).1
   have l1:decide (s.length+([y]:List Hold).length≤LIM)=true:=zee (by simp;omega)
   refine ⟨?_,fun s' hs'=>?_⟩
   ·simp -zeta only[z26,dlt hlt,zag,hx,cond_true,l1,za7,zam (show i<9223372036854775807 by omega)]
    unfold zch
    dsimp only
    cases (y.Record==record&&y.State==1&&decide (y.Asleep≤day))<;>rfl
   ·cases hs'
    cases zch record day y<;>simp<;>omega) [] (by simp)
 rw[zdm]at h
 unfold qh
 rw[show zad z26 (record,day,l,(l.length:Int),0,[],())=_ from h,zko,List.nil_append]
 simp only
 rw[z3e h20 (fun x hx=>hr x (List.mem_filter.1 hx).1)]
theorem z9s {l:List Hold} {record day rank:Int} (hl:l.length<1000000) (s:List Int) (hs:s.length<100000000):zad zv3 (l,record,day,rank,0,s,())=some (l,record,day,rank,s++(rk rank (l.filter (zch record day))).map (fun x=>x.ID),()):=by
 have h:=zbg (step:=zv3) (fun (i:Nat) (o:List Int)=>o.length≤s.length+i) (fun i o=>(l,record,day,rank,(i:Int),o,())) l
  (fun i y o=>.inl (bif zch record day y&&y.Rank==rank then o++[y.ID] else o)) (fun o=>(l,record,day,rank,o,())) (by rw[za4];omega)
  (fun o _=>by simp only[zv3,dge,cond_false])
  (fun i y o hx hi=>by
   have hlt:=(List.getElem?_eq_some_iff.1 hx).1
   have l1:decide (o.length+([y.ID]:List Int).length≤LIM)=true:=zee (by simp;omega)
   refine ⟨?_,fun s' hs'=>?_⟩
   ·simp -zeta only[zv3,dlt hlt,zag,hx,cond_true,l1,za7,zam (show i<9223372036854775807 by omega)]
    dsimp only
    rw[zadc]
    cases (zch record day y&&y.Rank==rank)<;>rfl
   ·cases hs'
    cases (zch record day y&&y.Rank==rank)<;>simp<;>omega) s (by omega)
 rw[zdm]at h
 rw[show zad zv3 (l,record,day,rank,0,s,())=_ from h]
 have e:(fun (s:List Int) (x:Hold)=>bif zch record day x&&x.Rank==rank then s++[x.ID] else s)=(fun s x=>bif (fun y=>zch record day y&&y.Rank==rank) x then s++[(fun z:Hold=>z.ID) x] else s):=rfl
 rw[e,zi0]
 unfold rk
 rw[List.filter_filter]
 have e2:(fun y:Hold=>zch record day y&&y.Rank==rank)=(fun a=>a.Rank==rank&&zch record day a):=by funext y;rw[Bool.and_comm]
 rw[e2]
def dn (q:List Hold):Nat→List Hold
 |0=>[]
 |k+1=>rk (k:Int) q++dn q k
theorem z4v (q:List Hold):za9 q=dn q 10:=by
 simp[za9,dn]
theorem zua {k:Int} {q:List Hold}:(rk k q).length≤q.length:=List.length_filter_le _ _
theorem za2n {l:List Hold} {record day:Int} (hl:l.length<1000000):∀(k:Nat) (s:List Int),k≤10→s.length+k*1000000<100000000→
 za1 z9r (k+1) (l,record,day,(k:Int)-1,s,())=some (s++(dn (l.filter (zch record day)) k).map (fun x=>x.ID),()):=by
 intro k
 induction k with
 |zero=>
  intro s _ _
  simp only[za1,dn,List.map_nil,List.append_nil]
  try rfl
 |succ k ih=>
  intro s hk hs
  have e:((k+1:Nat):Int)-1=(k:Int):=by omega
  have hlen:(rk (k:Int) (l.filter (zch record day))).length≤l.length:=Nat.le_trans zua (List.length_filter_le _ _)
  rw[za1]
  have d2:decide ((0:Int)≤(k:Int))=true:=by rw[decide_eq_true_eq];omega
  simp only[z9r,d2,cond_true,e,z9s hl s (by omega)]
  rw[zco (n:=(k:Int)-1) (by omega) (by omega),ih _ (by omega) (by rw[List.length_append,List.length_map];omega)]
  simp only[dn,List.map_append,List.append_assoc]
theorem za47 {l:List Hold} {record day:Int} (hl:l.length<1000000):q9 l record day=some ((za9 (l.filter (zch record day))).map (fun x=>x.ID)):=by
 have h:=za2n (record:=record) (day:=day) hl 10 [] (by omega) (by simp)
 unfold q9
 rw[show zad z9r (l,record,day,9,([]:List Int),())=_ from zbd 11 (by rw[za4];omega) h,List.nil_append,z4v]
theorem zga {q:List Hold} {x:Hold} (h:x∈za9 q):x∈q:=by
 have k:∀(k:Int),x∈rk k q→x∈q:=fun k h=>(List.mem_filter.1 h).1
 unfold za9 at h
 simp only[List.mem_append]at h
 rcases h with h|h|h|h|h|h|h|h|h|h<;>exact k _ h
def z2n (branch:Int) (vlocal:Bool) (x:Item) (h:Hold) (first:Int):Int⊕Int:=
 bif !(h.Item==0)&&!(h.Item==x.ID) then .inl first
 else bif !vlocal||h.Pickup==branch then .inr h.ID
 else .inl (bif first==0 then h.ID else first)
def zt2 (branch:Int) (vlocal:Bool) (x:Item) (h:Hold) (first:Int):Int⊕Int:=
 bif !(h.Item==0)&&!(h.Item==x.ID) then .inl first
 else bif vlocal&&h.Pickup==branch then .inr h.ID
 else .inl (bif first==0 then h.ID else first)
def z2o (branch:Int) (vlocal:Bool) (x:Item):List Hold→Int→Int
 | [],first=>first
 |h::q,first=>match z2n branch vlocal x h first with | .inl f=>z2o branch vlocal x q f | .inr r=>r
def zgt (branch:Int) (vlocal:Bool) (x:Item):List Hold→Int→Int
 | [],first=>first
 |h::q,first=>match zt2 branch vlocal x h first with | .inl f=>zgt branch vlocal x q f | .inr r=>r
theorem z2p {branch:Int} {x:Item}:∀{q:List Hold} {f:Int},f≠0→zgt branch false x q f=f:=by
 intro q
 induction q with
 |nil=>intros;rfl
 |cons h q ih=>
  intro f hf
  have h0:(f==0)=false:=by simpa using hf
  simp only[zgt,zt2,Bool.false_and,cond_false,h0]
  cases (!(h.Item==0)&&!(h.Item==x.ID))<;>exact ih hf
theorem z9p {branch:Int} {vlocal:Bool} {x:Item}:∀{q:List Hold} {f:Int},(∀h∈q,h.ID≠0)→(vlocal=false→f=0)→z2o branch vlocal x q f=zgt branch vlocal x q f:=by
 intro q
 induction q with
 |nil=>intros;rfl
 |cons h q ih=>
  intro f hq hf
  simp only[z2o,zgt,z2n,zt2]
  cases (!(h.Item==0)&&!(h.Item==x.ID)) with
  |true=>exact ih (fun y hy=>hq y (List.mem_cons_of_mem _ hy)) hf
  |false=>
   cases vlocal with
   |true=>
    cases h.Pickup==branch with
    |true=>rfl
    |false=>exact ih (fun y hy=>hq y (List.mem_cons_of_mem _ hy)) (fun e=>by cases e)
   |false=>
    have:=hf rfl
    subst this
    exact (z2p (hq h (List.mem_cons_self ..))).symm
end Go.Proofs.YtdahfgialanmpaaGreatDoor
namespace Go.Proofs.YtdahfgialanmpaaGreatDoor
open Ev
open Go (IntKind)
theorem zha {l:List Hold} (hsort:∀i x,l[i]?=some x→zbt l i (fun y=>decide (x.ID≤y.ID))=false) {h:Hold} (hm:h∈l):getH l h.ID=(h,true):=by
 unfold getH
 rw[zmj (key:=fun y:Hold=>y.ID) hsort hm]
theorem z2q {β:Type} {branch:Int} {vlocal:Bool} {x:Item} (fin:Int→β) (out:Int→β) (hfo:∀v:Int,True):∀(q:List Hold) (i:Nat) (f:Int),∃r:Int⊕Int,(match r with | .inl v=>v | .inr v=>v)=z2o branch vlocal x q f∧
 zc7 (fun (_:Nat) h f=>match z2n branch vlocal x h f with | .inl f=>.inl f | .inr v=>.inr (out v)) fin i q f=(match r with | .inl v=>fin v | .inr v=>out v):=by
 intro q
 induction q with
 |nil=>intro i f;exact ⟨.inl f,rfl,rfl⟩
 |cons h q ih=>
  intro i f
  simp only[zc7,z2o]
  cases z2n branch vlocal x h f with
  |inl f'=>exact ih (i+1) f'
  |inr v=>exact ⟨.inr v,rfl,rfl⟩
theorem z2r {β:Type} {branch:Int} {vlocal:Bool} {x:Item} (fin:Int→β) (out:Int→β) (hfo:∀v:Int,True):∀(q:List Hold) (i:Nat) (f:Int),∃r:Int⊕Int,(match r with | .inl v=>v | .inr v=>v)=zgt branch vlocal x q f∧
 zc7 (fun (_:Nat) h f=>match zt2 branch vlocal x h f with | .inl f=>.inl f | .inr v=>.inr (out v)) fin i q f=(match r with | .inl v=>fin v | .inr v=>out v):=by
 intro q
 induction q with
 |nil=>intro i f;exact ⟨.inl f,rfl,rfl⟩
 |cons h q ih=>
  intro i f
  simp only[zc7,zgt]
  cases zt2 branch vlocal x h f with
  |inl f'=>exact ih (i+1) f'
  |inr v=>exact ⟨.inr v,rfl,rfl⟩
theorem zg3 {q:List Hold}:(za9 q).length≤10*q.length:=by
 have k:∀n:Int,(rk n q).length≤q.length:=fun n=>zua
 unfold za9
 simp only[List.length_append]
 have:=k 0;have:=k 1;have:=k 2;have:=k 3;have:=k 4;have:=k 5;have:=k 6;have:=k 7;have:=k 8;have:=k 9
 omega
theorem za24 {l:List Hold} {x:Item} {branch day:Int} {vlocal:Bool} (hl:l.length<1000000) (h20:(l.filter (zch x.Record day)).length<20) (hr:∀x∈l,rng 0 9 x.Rank=true) :
 qbf l x branch day vlocal=some (z2o branch vlocal x (za9 (l.filter (zch x.Record day))) 0):=by
 unfold qbf
 rw[za5a hl h20 hr]
 have hq:(za9 (l.filter (zch x.Record day))).length<1000:=by have:=zg3 (q:=l.filter (zch x.Record day));omega
 generalize za9 (l.filter (zch x.Record day))=q at hq ⊢
 have h:=zdp (step:=zok) (fun i f=>(branch,vlocal,f,q,(q.length:Int),(i:Int),x,())) q
  (fun _ h f=>match z2n branch vlocal x h f with | .inl f=>.inl f | .inr v=>.inr (.inr (v,()))) (fun f=>.inl (f,())) (by rw[za4];omega)
  (fun f=>by simp only[zok,dge,cond_false])
  (fun i y f hx=>by
   have hlt:=(List.getElem?_eq_some_iff.1 hx).1
   simp -zeta only[zok,dlt hlt,zag,hx,cond_true,k_or,za7,zam (show i<9223372036854775807 by omega)]
   unfold z2n
   dsimp only
   cases (!(y.Item==0)&&!(y.Item==x.ID)) with
   |true=>rfl
   |false=>
    cases (!vlocal||y.Pickup==branch) with
    |true=>rfl
    |false=>cases f==0<;>rfl) 0
 obtain ⟨r,r1,r2⟩:=z2q (branch:=branch) (vlocal:=vlocal) (x:=x) (fun f=>(.inl (f,()):(Int×Unit)⊕(Int×Unit))) (fun v=>.inr (v,())) (fun _=>trivial) q 0 0
 rw[r2]at h
 simp only
 rw[show zad zok (branch,vlocal,0,q,(q.length:Int),0,x,())=_ from h,←r1]
 cases r<;>rfl
theorem za29 {l:List Hold} {x:Item} {branch day:Int} {vlocal:Bool} (hl:l.length<1000000) (hsort:∀i x,l[i]?=some x→zbt l i (fun y=>decide (x.ID≤y.ID))=false) :
 qbz l x branch day vlocal=some (zgt branch vlocal x (za9 (l.filter (zch x.Record day))) 0):=by
 unfold qbz
 rw[za47 hl]
 have hq:(za9 (l.filter (zch x.Record day))).length<100000000:=by
  have:=zg3 (q:=l.filter (zch x.Record day))
  have:=List.length_filter_le (zch x.Record day) l
  omega
 have hm:∀h∈za9 (l.filter (zch x.Record day)),h∈l:=fun h hh=>(List.mem_filter.1 (zga hh)).1
 generalize za9 (l.filter (zch x.Record day))=q at hq hm ⊢
 have h:=zdp (step:=zop) (fun i f=>(l,branch,vlocal,q.map (fun x=>x.ID),f,(i:Int),x,())) q
  (fun _ h f=>match zt2 branch vlocal x h f with | .inl f=>.inl f | .inr v=>.inr (.inr (v,()))) (fun f=>.inl (f,())) (by rw[za4];omega)
  (fun f=>by
   have d:decide ((q.length:Int)<((q.map (fun x=>x.ID)).length:Int))=false:=by rw[decide_eq_false_iff_not,List.length_map];omega
   simp only[zop,d,cond_false])
  (fun i y f hx=>by
   have hlt:=(List.getElem?_eq_some_iff.1 hx).1
   have d:decide ((i:Int)<((q.map (fun x=>x.ID)).length:Int))=true:=by rw[decide_eq_true_eq,List.length_map];omega
   have gx:(q.map (fun x=>x.ID))[i]?=some y.ID:=by rw[List.getElem?_map,hx];rfl
   simp -zeta only[zop,d,zag,gx,cond_true,k_or,za7,z9v (show l.length<1000000000 by omega),zha hsort (hm y (List.mem_of_getElem? hx)),zam (show i<9223372036854775807 by omega)]
   unfold zt2
   dsimp only
   cases (!(y.Item==0)&&!(y.Item==x.ID)) with
   |true=>rfl
   |false=>
    cases (vlocal&&y.Pickup==branch) with
    |true=>rfl
    |false=>cases f==0<;>rfl) 0
 obtain ⟨r,r1,r2⟩:=z2r (branch:=branch) (vlocal:=vlocal) (x:=x) (fun f=>(.inl (f,()):(Int×Unit)⊕(Int×Unit))) (fun v=>.inr (v,())) (fun _=>trivial) q 0 0
 rw[r2]at h
 simp only
 rw[show zad zop (l,branch,vlocal,q.map (fun x=>x.ID),0,0,x,())=_ from h,←r1]
 cases r<;>rfl
theorem z1w {c:Circ} (h:FitP c) {o:Hold} (ho:o∈c.Holds):rng 0 9 o.Rank=true∧o.ID≠0:=by
 have:=znp h.holds ho
 unfold zbo at this
 have:=zb5 this (by decide)
 simp only[Bool.or_eq_false_iff,decide_eq_false_iff_not]at this
 obtain ⟨⟨hx,h1⟩,h2⟩:=this
 refine ⟨by rw[zby];omega,?_⟩
 have:=hx.1.1.1.1.1.1.1.1.1.1
 omega
end Go.Proofs.YtdahfgialanmpaaGreatDoor
namespace Go.Proofs.YtdahfgialanmpaaGreatDoor
open Ev
open Go (IntKind)
end Go.Proofs.YtdahfgialanmpaaGreatDoor
namespace Go.Proofs.YtdahfgialanmpaaGreatDoor
open Ev
open Go (IntKind)
def ze6 (c:Circ) (l:List Hold):Circ:=⟨c.Today,c.Items,c.Patrons,c.Loans,l,c.Charges,c.Rules,c.Cals,c.Moves,c.NextHold,c.NextCharge,c.Local⟩
theorem zgm (c:Circ) (l:List Hold) (e:Int) (he:e≠0):qcn l e ⟨c,0⟩=some ((),⟨ze6 c c.Holds,e⟩):=by
 have h:(e==0)=false:=by simpa using he
 unfold qcn qt
 simp only[h,Bool.not_false,cond_true,beq_self_eq_true,cond_false]
 try rfl
end Go.Proofs.YtdahfgialanmpaaGreatDoor
namespace Go.Proofs.YtdahfgialanmpaaGreatDoor
open Ev
open Go (IntKind)
def znb {X:Type} (i:Int) (upd:X→X):Nat→List X→List X
 |_,[]=>[]
 |k,x::l=>(bif (k:Int)==i then upd x else x)::znb i upd (k+1) l
theorem z3t {X:Type} {i:Nat} {upd:X→X}:∀{l:List X} {k:Nat},i<k→znb (i:Int) upd k l=l:=by
 intro l
 induction l with
 |nil=>intros;rfl
 |cons x l ih=>
  intro k h
  have:((k:Int)==(i:Int))=false:=by
   have hne:¬(k:Int)=(i:Int):=by omega
   simpa using hne
  simp only[znb,this,cond_false]
  rw[ih (by omega)]
theorem zac6 {X:Type} {upd:X→X} {x:X}:∀{l:List X} {k j:Nat},l[j]?=some x→znb ((k+j:Nat):Int) upd k l=l.set j (upd x):=by
 intro l
 induction l with
 |nil=>intro k j h;simp at h
 |cons y l ih=>
  intro k j h
  cases j with
  |zero=>
   simp at h
   subst h
   have:((k:Int)==((k+0:Nat):Int))=true:=by simp
   simp only[znb,this,cond_true,List.set_cons_zero]
   rw[z3t (by omega)]
  |succ j=>
   have hne:((k:Int)==((k+(j+1):Nat):Int))=false:=by
    have:¬(k:Int)=((k+(j+1):Nat):Int):=by omega
    simpa using this
   simp only[znb,hne,cond_false,List.set_cons_succ]
   have:=ih (k:=k+1) (j:=j) (by simpa using h)
   rw[show k+1+j=k+(j+1) by omega]at this
   rw[this]
theorem zaaq {X β:Type} {i:Int} {upd:X→X} {g:List X→β}:∀{l:List X} {k:Nat} {s:List X},zc7 (fun (k:Nat) x (s:List X)=>.inl (s++[bif (k:Int)==i then upd x else x])) g k l s=g (s++znb i upd k l):=by
 intro l
 induction l with
 |nil=>intro k s;simp[zc7,znb]
 |cons x l ih=>intro k s;simp only[zc7,znb];rw[ih];simp
def zht (u:Custody) (x:Item):Item:=⟨x.ID,x.Record,x.Branch,x.Kind,x.Price,x.Call,u⟩
def zcp (c:Circ) (i:Nat) (x:Item) (m:Move) (u:Custody):Circ:=⟨c.Today,c.Items.set i (zht u x),c.Patrons,c.Loans,c.Holds,c.Charges,c.Rules,c.Cals,c.Moves++[m],c.NextHold,c.NextCharge,c.Local⟩
def zm5 (c:Circ) (e:Int):Int:=bif e==0&&decide (2000≤(c.Moves.length:Int)) then 13 else e
theorem zim {c:Circ} {i:Nat} {x:Item} {kind branch who:Int} (hs:Short c) (hm:c.Moves.length<100000000) (hx:c.Items[i]?=some x) :
 qbi (i:Int) kind branch who ⟨c,0⟩=some ((),bif zm5 c (zbc x.Custody ⟨c.Today,x.ID,kind,branch,who⟩).2==0 then ⟨zcp c i x ⟨c.Today,x.ID,kind,branch,who⟩ (zbc x.Custody ⟨c.Today,x.ID,kind,branch,who⟩).1,0⟩ else ⟨c,zm5 c (zbc x.Custody ⟨c.Today,x.ID,kind,branch,who⟩).2⟩):=by
 have hc1:qcr c.Items=some c.Items:=by unfold qcr;rw[zi8 hs.items];rfl
 have hc2:qdo c.Moves=some c.Moves:=by unfold qdo;rw[zi8 hs.moves];rfl
 have l1:decide (c.Moves.length+([(⟨c.Today,x.ID,kind,branch,who⟩:Move)]:List Move).length≤LIM)=true:=zee (by simp;omega)
 unfold qbi zm5
 simp -zeta only[beq_self_eq_true,Bool.not_true,cond_false,zag,hx,za3j,za7]
 generalize zbc x.Custody ⟨c.Today,x.ID,kind,branch,who⟩=q
 obtain ⟨u,e⟩:=q
 dsimp only
 cases hb:(e==0&&decide (2000≤(c.Moves.length:Int))) with
 |true=>
  simp only[cond_true,qt,beq_self_eq_true]
  try rfl
 |false=>
  simp only[cond_false]
  cases he:e==0 with
  |true=>
   have:e=0:=by simpa using he
   subst this
   simp only[Bool.not_true,cond_false,cond_true,hc1,hc2,zag,hx,Int.toNat_natCast,l1]
   try rfl
  |false=>
   simp only[Bool.not_false,cond_true,cond_false,qt,beq_self_eq_true]
theorem zv5 {c:Circ} {i:Nat} {m:Move} {u:Custody} (hs:Short c):zad zgv ((i:Int),0,c,zdy,m,u,[],())=some (c,zdy,m,znb (i:Int) (zht u) 0 c.Items,()):=by
 have h:=zbg (step:=zgv) (fun (k:Nat) (s:List Item)=>s.length≤k) (fun k s=>((i:Int),(k:Int),c,zdy,m,u,s,())) c.Items
  (fun k x s=>.inl (s++[bif (k:Int)==(i:Int) then zht u x else x])) (fun s=>(c,zdy,m,s,())) (by rw[za4];have:=hs.items;omega)
  (fun s _=>by simp only[zgv,dge,cond_false])
  (fun k x s hx hi=>by
   have hlt:=(List.getElem?_eq_some_iff.1 hx).1
   have:=hs.items
   have l1:∀y:Item,decide (s.length+([y]:List Item).length≤LIM)=true:=fun y=>zee (by simp;omega)
   refine ⟨?_,fun s' hs'=>?_⟩
   ·simp only[zgv,dlt hlt,zag,hx,cond_true,l1,zam (show k<9223372036854775807 by omega)]
    cases (k:Int)==(i:Int)<;>rfl
   ·cases hs'
    simp
    omega) [] (by simp)
 rw[zaaq]at h
 exact h
theorem za2v {c:Circ} {item:Int} {i:Nat} {x:Item} {kind branch who:Int} (hs:Short c) (hm:c.Moves.length<100000000) (hat:qi c item=some (i:Int)) (hx:c.Items[i]?=some x) (hid:x.ID=item) :
 qai c item kind branch who=some (bif zm5 c (zbc x.Custody ⟨c.Today,x.ID,kind,branch,who⟩).2==0 then (zcp c i x ⟨c.Today,x.ID,kind,branch,who⟩ (zbc x.Custody ⟨c.Today,x.ID,kind,branch,who⟩).1,0) else (zdy,zm5 c (zbc x.Custody ⟨c.Today,x.ID,kind,branch,who⟩).2)):=by
 subst hid
 unfold qai zm5
 rw[hat]
 simp only[zag,hx,zam5]
 generalize zbc x.Custody ⟨c.Today,x.ID,kind,branch,who⟩=q
 obtain ⟨u,e⟩:=q
 simp only
 cases he:e==0 with
 |false=>simp only[Bool.not_false,cond_true,Bool.false_and,cond_false,he];rfl
 |true=>
  have:e=0:=by simpa using he
  subst this
  simp only[Bool.not_true,cond_false,Bool.true_and]
  cases decide (2000≤(c.Moves.length:Int)) with
  |true=>rfl
  |false=>
   have hw:=zv5 (i:=i) (m:=⟨c.Today,x.ID,kind,branch,who⟩) (u:=u) hs
   have l1:decide (c.Moves.length≤LIM)=true:=by rw[decide_eq_true_eq];unfold LIM;omega
   have l2:decide (c.Moves.length+([(⟨c.Today,x.ID,kind,branch,who⟩:Move)]:List Move).length≤LIM)=true:=zee (by simp;omega)
   have es:=zac6 (upd:=zht u) (l:=c.Items) (k:=0) (j:=i) hx
   rw[Nat.zero_add]at es
   rw[es]at hw
   simp only[cond_false]
   rw[show zad zgv ((i:Int),0,c,(⟨0,[],[],[],[],[],[],⟨⟨0,[]⟩,⟨0,[]⟩,⟨0,[]⟩,⟨0,[]⟩⟩,[],0,0,false⟩:Circ),(⟨c.Today,x.ID,kind,branch,who⟩:Move),u,([]:List Item),())=_ from hw]
   simp only[l1,l2,cond_true]
   try rfl
end Go.Proofs.YtdahfgialanmpaaGreatDoor
namespace Go.Proofs.YtdahfgialanmpaaGreatDoor
open Ev
open Go (IntKind)
theorem zt3 {branch:Int} {vlocal:Bool} {x:Item}:∀{q:List Hold} {f:Int},zgt branch vlocal x q f=f∨∃h∈q,zgt branch vlocal x q f=h.ID:=by
 intro q
 induction q with
 |nil=>intro f;exact .inl rfl
 |cons h q ih=>
  intro f
  have lift:∀g:Int,(zgt branch vlocal x q g=g∨∃o∈q,zgt branch vlocal x q g=o.ID)→(g=f∨g=h.ID)→(zgt branch vlocal x q g=f∨∃o∈h::q,zgt branch vlocal x q g=o.ID):=by
   intro g hg hgf
   rcases hg with hg|⟨o,ho,hg⟩
   ·rcases hgf with e|e
    ·exact .inl (by rw[hg,e])
    ·exact .inr ⟨h,List.mem_cons_self ..,by rw[hg,e]⟩
   ·exact .inr ⟨o,List.mem_cons_of_mem _ ho,hg⟩
  simp only[zgt,zt2]
  cases (!(h.Item==0)&&!(h.Item==x.ID)) with
  |true=>exact lift f ih (.inl rfl)
  |false=>
   cases (vlocal&&h.Pickup==branch) with
   |true=>exact .inr ⟨h,List.mem_cons_self ..,rfl⟩
   |false=>
    cases f==0 with
    |true=>exact lift h.ID ih (.inr rfl)
    |false=>exact lift f ih (.inl rfl)
end Go.Proofs.YtdahfgialanmpaaGreatDoor
namespace Go.Proofs.YtdahfgialanmpaaGreatDoor
open Ev
open Go (IntKind)
end Go.Proofs.YtdahfgialanmpaaGreatDoor
namespace Go.Proofs.YtdahfgialanmpaaGreatDoor
open Ev
open Go (IntKind)
end Go.Proofs.YtdahfgialanmpaaGreatDoor
namespace Go.Proofs.YtdahfgialanmpaaGreatDoor
open Ev
open Go (IntKind)
theorem zpw (c:Circ) (n e0:Int) (h0:e0≠0):qbg n ⟨c,e0⟩=some ((zdy,0,e0),⟨c,e0⟩):=by
 have h:(e0==0)=false:=by simpa using h0
 unfold qbg
 simp only[h,Bool.not_false,cond_true]
 try rfl
theorem z63 (c:Circ) (n:Int):qbg n ⟨c,0⟩=some ((c,n,0),⟨c,0⟩):=rfl
end Go.Proofs.YtdahfgialanmpaaGreatDoor
namespace Go.Proofs.YtdahfgialanmpaaGreatDoor
open Ev
open Go (IntKind)
theorem zv0 {c:Circ} {i:Nat} {x:Item} {m:Move} {u:Custody} (hs:Short c) (hm:c.Moves.length<100000000) (hx:c.Items[i]?=some x):Short (zcp c i x m u):=by
 obtain ⟨h1,h2,h3,h4,h5,h6,h7,h8,h9,h10,h11,h12,h13⟩:=hs
 refine ⟨?_,h2,h3,h4,h5,h6,?_,fun z hz=>?_,h9,h10,h11,h12,h13⟩
 ·show (c.Items.set i _).length<_
  rw[List.length_set];exact h1
 ·show (c.Moves++[m]).length<_
  simp;omega
 ·rcases List.mem_or_eq_of_mem_set hz with h|h
  ·exact h8 z h
  ·rw[h];exact h8 x (List.mem_of_getElem? hx)
theorem zkf {c:Circ} {l:List Hold} (hs:Short c) (hl:l.length<1000000000):Short (ze6 c l):=by
 obtain ⟨h1,h2,h3,h4,h5,h6,h7,h8,h9,h10,h11,h12,h13⟩:=hs
 exact ⟨h1,h2,h3,hl,h5,h6,h7,h8,h9,h10,h11,h12,h13⟩
end Go.Proofs.YtdahfgialanmpaaGreatDoor
namespace Go.Proofs.YtdahfgialanmpaaGreatDoor
open Ev
open Go (IntKind)
theorem zil {c:Circ} {id:Int} (hs:Short c):qdv id ⟨c,0⟩=some (fIdx (fun x=>x.ID==id) c.Items,⟨c,bif decide (fIdx (fun x=>x.ID==id) c.Items<0) then 9 else 0⟩):=by
 unfold qdv
 simp only[za2q hs.items]
 cases decide (fIdx (fun x:Item=>x.ID==id) c.Items<0)<;>rfl
end Go.Proofs.YtdahfgialanmpaaGreatDoor
